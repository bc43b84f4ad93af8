/-  Chapter 11, plainly: what Check says of a model. -/
import Derived.Test.YtfencmicmnhglaaGreatPK
import Derived.Test.YtfencmicmnhglaaGreatQA
namespace Go.Proofs.YtfencmicmnhglaaGreat.Ev
open Go An
set_option maxRecDepth 100000
set_option linter.unusedVariables false
set_option linter.unusedSimpArgs false
set_option linter.unnecessarySimpa false
def fE(a b:Int):Int:=if a=0 then b else a
def unl(c:Bool)(e:Int):Int:=bif c then 0 else e
def Zv(bf:List ByteArray)(n:ByteArray):Int:=fE (V1 n) (unl (!bf.any fun x=>decide (x=n)) 4)
def N1(t:Int):Bool:=Bx 1 3 t
def y6(t n:Int):Bool:=if t=1 then inZ n else if t=2 then (n == 0 || n == 1) else if t=3 then Bx 0 1000000000 n else false
def V0{α :Type}(nm: α→ByteArray)(f: α→Int):List ByteArray→List α→Int×List ByteArray
 |bf,[]=>(0,bf)
 |bf,x::k=>if fE (Zv bf (nm x)) (f x)≠0 then (fE (Zv bf (nm x)) (f x),bf) else V0 nm f (bf++ [nm x]) k
def Qg{α :Type}(most:Nat)(nm: α→ByteArray)(f: α→Int)(bf:List ByteArray)(l:List α):Int×List ByteArray:=if most < l.length then (6,bf) else V0 nm f bf l
def Aju{α :Type}(f: α→Int):List α→Int
 | []=>0
 |x::k=>fE (f x) (Aju f k)
def A04(cy:Int):Option Int→List Cy→Int
 |_,[]=>0
 |p,c::k=>if (Bx 0 (cy - 1) c.At && Bx 0 1000 c.Units)=false then 2
  else if (match p with|some q=>decide (c.At≤q)|none=>false)=true then 12 else A04 cy (some c.At) k
def Au6(r:Ai):Int:=if r.Shift.length=0 then unl (r.Cycle == 0) 1 else if 20 < r.Shift.length then 6 else if Bx 1 1000000000 r.Cycle=false then 2 else A04 r.Cycle none r.Shift
def A7n(s:Aa)(f:Gf):Int:=if f.Stream.size=0 then unl (An6 f.Up Ajm && An6 f.Down Ajm) 1 else if s.Streams.any (fun x=>decide (x=f.Stream))=false then 5 else fE (Aqo f.Up) (Aqo f.Down)
def Bg4(s:Aa)(r:Ai):Int:=fE (unl (Bx 0 1000 r.Units) 2) (fE (Au6 r) (A7n s r.Fault))
def Avh(x:Am):Int:=fE (unl (Bx 1 1000 x.Room) 2) (unl (Bx 1 3 x.Policy) 1)
def A0z(x:Aq):Int:=unl (Bx 1 1000 x.Length && Bx 1 1000 x.Step) 2
def Zf(v:Ah):Int:=fE (unl (N1 v.Type_) 1) (unl (y6 v.Type_ v.N) 2)
def Axs(r:Ak):Int:=if 6 < r.Params.length∨16 < r.Params.length+r.Locals.length then 6 else fE (V0 (fun f:Ap=>f.Name) (fun f=>unl (N1 f.Type_) 1) [] (r.Params++r.Locals)).1 (Al8 r.Body)
def A5x(s:Aa)(d:Bo):Int:=match s.Routines.find? fun r=>decide (r.Name=d.Routine) with
 |none=>5
 |some r=>if d.Args.length≠r.Params.length then 8 else if ((r.Params.zip d.Args).all fun p=>y6 p.1.Type_ p.2)=false then 2
  else unl (Bx 0 1000000000 d.At && Bx 0 1000000000 d.Every && Bx 0 1000000000 d.Until && (d.Every != 0 || d.Until == 0)) 2
def Avl(w:ByteArray):Int:=
 if w=⟨#[99,114,101,97,116,101,100]⟩∨w=⟨#[101,110,100,101,100]⟩∨w=⟨#[105,110,115,105,100,101]⟩ then 1
 else if w=⟨#[115,116,111,114,101,100]⟩∨w=⟨#[101,110,116,101,114,101,100]⟩∨w=⟨#[108,101,102,116]⟩ then 2
 else if w=⟨#[99,111,117,110,116,101,100]⟩ then 3 else 0
def A61(t:Aw):Int:=unl (Bx (-1000) 1000 t.Coef && t.Coef != 0) 2
def Wh(s:Aa)(t:Aw):Int:=
 if Avl t.What=0 then 1
 else if (if Avl t.What=1 then s.Routines.any (fun r=>decide (r.Name=t.Name)) else if Avl t.What=2 then s.Stores.any (fun x=>decide (x.Name=t.Name)) else s.Counts.any (fun x=>decide (x=t.Name)))=false then 5
 else A61 t
def Azx(tm:Aw→Int)(l:A9):Int:=fE (unl (decide (0 < l.Terms.length)) 7) (fE (unl (decide (l.Terms.length≤8)) 6) (fE (Aju tm l.Terms) (unl (inZ l.Total) 2)))
def Abh(p:Int×List ByteArray)(f:List ByteArray→Int×List ByteArray):Int×List ByteArray:=if p.1≠0 then p else f p.2
def txE(bf:List ByteArray)(l:List ByteArray):Int×List ByteArray:=Qg 32 (fun x:ByteArray=>x) (fun _=>0) bf l
def A4k(s:Aa):Int×List ByteArray:=
 Abh (Abh (Abh (Abh (Abh (Abh (Abh (Abh (Abh (Qg 32 (fun x:Ah=>x.Name) Zf [] s.Vars)
  fun b=>Qg 32 (fun x:Ai=>x.Name) (Bg4 s) b s.Resources) fun b=>Qg 32 (fun x:Am=>x.Name) Avh b s.Stores)
  fun b=>Qg 32 (fun x:Aq=>x.Name) A0z b s.Belts) fun b=>txE b s.Queues) fun b=>txE b s.Streams) fun b=>txE b s.Tallies)
  fun b=>txE b s.Levels) fun b=>txE b s.Counts) fun b=>Qg 16 (fun x:Ak=>x.Name) Axs b s.Routines
def Asx(s:Aa):Int:=if 32 < s.Starts.length then 6 else Aju (A5x s) s.Starts
def An7(tm:Aa→Aw→Int)(s:Aa):Int:=fE (A4k s).1 (fE (Asx s) (Qg 32 (fun l:A9=>l.Name) (Azx (tm s)) [] s.Laws).1)
def A2v(m:Ad)(seen:List Be)(l:Be):Int:=
 if (m.Sites.any (fun d=>decide (d.Name=l.From)) && m.Sites.any (fun d=>decide (d.Name=l.To)))=false then 5
 else if l.From=l.To then 1 else if Bx 1 1000000000 l.Delay=false then 2
 else unl (!seen.any fun x=>decide (x.From=l.From) && decide (x.To=l.To)) 4
def Ao3(m:Ad):List Be→List Be→Int
 |_,[]=>0
 |seen,l::k=>fE (A2v m seen l) (Ao3 m (seen++ [l]) k)
def A41(m:Ad):Int:=if 32 < m.Links.length then 6 else Ao3 m [] m.Links
def Alq(tm:Aa→Aw→Int)(m:Ad):Int:=
 fE (V1 m.Name) (fE (Qg 32 (fun x:Ah=>x.Name) Zf [] m.Params).1 (fE (unl (decide (0 < m.Sites.length)) 7)
  (fE (Qg 16 (fun d:Aa=>d.Name) (An7 tm) [] m.Sites).1 (A41 m))))
theorem Att{a b:Int} :fE a b=0↔a=0∧b=0:=by
 unfold fE
 by_cases h:a=0
 ·rw [if_pos h];simp [h]
 ·rw [if_neg h];simp [h]
theorem Xt(b:Int):fE 0 b=b:=rfl
theorem Ys{a b:Int}(h:a≠0):fE a b=a:=if_neg h
theorem Bh8{c:Bool}{e:Int}(he:e≠0):unl c e=0↔c=true:=by cases c<;>simp [unl,he]
theorem B0i{bf:List ByteArray}{n:ByteArray}(h:Zv bf n=0):n∉bf:=by
 have h2:=(Att.1 h).2
 rw [Bh8 (by decide)] at h2
 intro hm
 have:(bf.any fun x=>decide (x=n))=true:=List.any_eq_true.2 ⟨n,hm,by simp⟩
 rw [this] at h2;cases h2
def Exd(b:List ByteArray)(x:Int×List ByteArray)(l:List ByteArray):Prop:=x.1=0→x.2=b++l∧(b.Nodup→x.2.Nodup)
theorem A1k{α :Type}(nm: α→ByteArray)(f: α→Int):∀(l:List α) (b:List ByteArray),Exd b (V0 nm f b l) (l.map nm)
 | [],b=>fun _=>⟨by simp [V0],fun h=>h⟩
 |x::k,b=>by
  intro h
  rw [V0] at h ⊢
  by_cases hz:fE (Zv b (nm x)) (f x)=0
  ·rw [if_neg (by simp [hz])] at h ⊢
   obtain ⟨h1,h2⟩:=A1k nm f k (b++ [nm x]) h
   have hn:=B0i (Att.1 hz).1
   refine ⟨by rw [h1];simp,fun hb=>h2 ?_⟩
   rw [List.nodup_append]
   refine ⟨hb,by simp,?_⟩
   intro a ha c hc hac
   rw [List.mem_singleton] at hc
   subst hc;subst hac
   exact hn ha
  ·rw [if_pos (by simpa using hz)] at h
   exact absurd h hz
theorem Bec{α :Type}(most:Nat)(nm: α→ByteArray)(f: α→Int)(b:List ByteArray)(l:List α):Exd b (Qg most nm f b l) (l.map nm):=by
 intro h
 unfold Qg at h ⊢
 by_cases hm:most < l.length
 ·rw [if_pos hm] at h;exact absurd h (by show¬((6:Int)=0);decide)
 ·rw [if_neg hm] at h ⊢;exact A1k nm f l b h
def tr{α :Type}(ks:List α):List Bool:=List.replicate ks.length true
theorem Bbg{α :Type}(ks:List α)(n: α):tr ks++ [true]=tr (ks++ [n]):=by
 unfold tr;rw [List.length_append,List.length_singleton,List.replicate_succ']
def nx(ks:List ByteArray)(n:ByteArray):List ByteArray:=if Zv ks n=0 then ks++ [n] else ks
def Brf(X:Option Int)(n:ByteArray)(ks:List ByteArray)(vs:List Bool):Option (Int×List ByteArray×List Bool):=
 X.bind fun r=>bif r != 0 then some (r,ks,vs) else fko (ks.findIdx? fun b=>n == b)
  (fun i=>bif vs.getD i default then some (4,ks,vs) else fko (ks.findIdx? fun b=>n == b) (fun j=>some (0,ks,vs.set j true)) (some (0,ks++ [n],vs++ [true])))
  (fko (ks.findIdx? fun b=>n == b) (fun j=>some (0,ks,vs.set j true)) (some (0,ks++ [n],vs++ [true])))
theorem Bh7{α :Type}{ks:List α}{i:Nat}(h:i < ks.length):(tr ks).getD i default=true:=by
 unfold tr
 rw [List.getD_eq_getElem?_getD,List.getElem?_replicate,if_pos h];rfl
theorem Atw{α :Type}{ks:List α}{p: α→Bool}(h:ks.findIdx? p=none):ks.any p=false:=by
 rw [List.findIdx?_eq_none_iff] at h
 rw [List.any_eq_false]
 intro x hx
 simp [h x hx]
theorem Aoq{α :Type}{ks:List α}{p: α→Bool}{i:Nat}(h:ks.findIdx? p=some i):ks.any p=true:=by
 obtain ⟨h1,h2,_⟩:=List.findIdx?_eq_some_iff_getElem.1 h
 exact List.any_eq_true.2 ⟨_,List.getElem_mem h1,h2⟩
theorem Ay1(n b:ByteArray):(n == b)=decide (b=n):=by
 show (n.data == b.data)=_
 rw [Bool.eq_iff_iff,beq_iff_eq,decide_eq_true_iff]
 constructor
 ·intro h;cases n;cases b;cases h;rfl
 ·rintro rfl;rfl
theorem Bj0{X:Option Int}{n:ByteArray}(ks:List ByteArray)(h:X=some (V1 n)):Brf X n ks (tr ks)=some (Zv ks n,nx ks n,tr (nx ks n)):=by
 subst h
 unfold Brf nx Zv
 rw [Option.bind_some]
 by_cases h0:V1 n=0
 ·have e:(fun b=>n == b)=fun x:ByteArray=>decide (x=n):=funext fun b=>Ay1 n b
  rw [h0,e]
  cases hf:ks.findIdx? fun x=>decide (x=n) with
  |none=>
   rw [Atw hf]
   simp only [fko,fE,unl,Bool.not_false,cond_true,if_true,Bbg ks n]
   rfl
  |some i=>
   rw [Aoq hf]
   obtain ⟨h1,_⟩:=List.findIdx?_eq_some_iff_getElem.1 hf
   simp only [fko,Bh7 h1]
   rfl
 ·rw [Zn h0,cond_true,Ys h0,if_neg h0]
def Out(X:Option (Int×List ByteArray×List Bool))(p:Int×List ByteArray):Prop:=∃ks,X=some (p.1,ks,tr ks)∧(p.1=0→ks=p.2)
theorem Beh{α :Type}{nm: α→ByteArray}{f: α→Int}{lq:List α→Nat→Int→List ByteArray→List Bool→Option (Nat×(Int×Int×List ByteArray×List Bool))}{bd: α→List ByteArray→List Bool→Option (Int×List ByteArray×List Bool)}
  (hn:∀i v ks vs,lq [] i v ks vs=some (1,(v,(i:Int),ks,vs)))
  (hc:∀x k i v ks vs,lq (x::k) i v ks vs=(bd x ks vs).bind fun o=>bif o.1 != 0 then some (0,(o.1,(i:Int),o.2.1,o.2.2)) else lq k (i+1) v o.2.1 o.2.2):
  ∀(k:List α) (i:Nat) (v:Int) (ks:List ByteArray),(∀x∈k,∀ks,∃ks',bd x ks (tr ks)=some (fE (Zv ks (nm x)) (f x),ks',tr ks')∧(fE (Zv ks (nm x)) (f x)=0→ks'=ks++ [nm x]))→
  ∃j ks',lq k i v ks (tr ks)=some (if (V0 nm f ks k).1=0 then (1,(v,(j,ks',tr ks'))) else (0,((V0 nm f ks k).1,(j,ks',tr ks'))))∧((V0 nm f ks k).1=0→ks'=(V0 nm f ks k).2):=by
 intro k
 induction k with
 |nil=>intro i v ks _;exact ⟨i,ks,by rw [hn,V0];rfl,fun _=>rfl⟩
 |cons x k ih=>
  intro i v ks h
  obtain ⟨ks1,hb,hz⟩:=h x (by simp) ks
  rw [hc,hb,Option.bind_some]
  by_cases h0:fE (Zv ks (nm x)) (f x)=0
  ·have:=hz h0;subst this
   have e:V0 nm f ks (x::k)=V0 nm f (ks++ [nm x]) k:=by rw [V0,if_neg (by simp [h0])]
   obtain ⟨j,ks',hj,he⟩:=ih (i+1) v (ks++ [nm x]) fun y hy=>h y (by simp [hy])
   rw [e]
   exact ⟨j,ks',by simp only [h0];exact hj,he⟩
  ·have e:V0 nm f ks (x::k)=(fE (Zv ks (nm x)) (f x),ks):=by rw [V0,if_pos h0]
   rw [e]
   exact ⟨i,ks1,by simp only [Zn h0,cond_true,if_neg h0],fun hh=>absurd hh h0⟩
def Bog(most:Int)(n:Nat)(ks:List ByteArray)(vs:List Bool)(X:Option (Nat×(Int×Int×List ByteArray×List Bool))):Option (Int×List ByteArray×List Bool):=
 bif decide ((n:Int) > most) then some (6,ks,vs) else X.bind fun o=>Asb o.1 [some (o.2.1,o.2.2.2.1,o.2.2.2.2),some (0,o.2.2.2.1,o.2.2.2.2)]
theorem Yp{α :Type}{nm: α→ByteArray}{f: α→Int}{lq:List α→Nat→Int→List ByteArray→List Bool→Option (Nat×(Int×Int×List ByteArray×List Bool))}{bd: α→List ByteArray→List Bool→Option (Int×List ByteArray×List Bool)}
  (hn:∀i v ks vs,lq [] i v ks vs=some (1,(v,(i:Int),ks,vs)))
  (hc:∀x k i v ks vs,lq (x::k) i v ks vs=(bd x ks vs).bind fun o=>bif o.1 != 0 then some (0,(o.1,(i:Int),o.2.1,o.2.2)) else lq k (i+1) v o.2.1 o.2.2)
  (most:Nat) (l:List α) (v:Int) (ks:List ByteArray) (X:Option (Nat×(Int×Int×List ByteArray×List Bool))) (hX:X=lq l 0 v ks (tr ks))
  (hb:∀x∈l,∀ks,∃ks',bd x ks (tr ks)=some (fE (Zv ks (nm x)) (f x),ks',tr ks')∧(fE (Zv ks (nm x)) (f x)=0→ks'=ks++ [nm x])):
  Out (Bog most l.length ks (tr ks) X) (Qg most nm f ks l):=by
 unfold Out Bog Qg
 by_cases hm:most < l.length
 ·rw [decide_eq_true (show (l.length:Int) > most by omega),if_pos hm]
  exact ⟨ks,rfl,fun _=>rfl⟩
 ·rw [decide_eq_false (show¬(l.length:Int) > most by omega),if_neg hm,cond_false,hX]
  obtain ⟨j,ks',hj,he⟩:=Beh hn hc l 0 v ks hb
  refine ⟨ks',?_,he⟩
  rw [hj,Option.bind_some]
  by_cases h0:(V0 nm f ks l).1=0
  ·rw [if_pos h0,n8,h0]
  ·rw [if_neg h0,Lx]
def Gl(e:Int)(X:Option (Int×List ByteArray×List Bool)):Prop:=∃a b,X=some (e,a,b)
theorem B17{X:Option (Int×List ByteArray×List Bool)}{p:Int×List ByteArray}{e:Int}{G:Int×List ByteArray×List Bool→Option (Int×List ByteArray×List Bool)}(hX:Out X p)
  (hG:∀e a b,e≠0→G (e,a,b)=some (e,a,b)) (h:∀ks,Gl e (G (0,ks,tr ks))):Gl (fE p.1 e) (X.bind G):=by
 obtain ⟨ks,rfl,h0⟩:=hX
 rw [Option.bind_some]
 by_cases hp:p.1=0
 ·rw [hp,Xt];exact h ks
 ·rw [hG _ _ _ hp,Ys hp];exact ⟨_,_,rfl⟩
theorem Aob{X:Option (Int×List ByteArray×List Bool)}{p:Int×List ByteArray}{e:Int}{f:List ByteArray→Int×List ByteArray}{G:Int×List ByteArray×List Bool→Option (Int×List ByteArray×List Bool)}(hX:Out X p)
  (hG:∀e a b,e≠0→G (e,a,b)=some (e,a,b)) (h:∀ks,Gl (fE (f ks).1 e) (G (0,ks,tr ks))):Gl (fE (Abh p f).1 e) (X.bind G):=by
 obtain ⟨ks,rfl,h0⟩:=hX
 rw [Option.bind_some]
 unfold Abh
 by_cases hp:p.1=0
 ·rw [if_neg (by simp [hp]),←h0 hp,hp];exact h ks
 ·rw [if_pos hp,hG _ _ _ hp,Ys hp];exact ⟨_,_,rfl⟩
theorem nzE{e:Int}(h:e≠0)(a:List ByteArray)(b:List Bool)(Y:Option (Int×List ByteArray×List Bool)):(bif e != 0 then some (e,a,b) else Y)=some (e,a,b):=by rw [Zn h];rfl
theorem A58(p:Int×List ByteArray)(f g:List ByteArray→Int×List ByteArray):Abh (Abh p f) g=Abh p fun b=>Abh (f b) g:=by
 unfold Abh
 by_cases hp:p.1=0
 ·simp [hp]
 ·simp [hp]
theorem Bw8{α :Type}{f: α→Int}{lq:List α→Nat→Int→Option (Nat×(Int×Int))}{bd: α→Option Int}
  (hn:∀i v,lq [] i v=some (1,(v,(i:Int))))
  (hc:∀x k i v,lq (x::k) i v=(bd x).bind fun o=>bif o != 0 then some (0,(o,(i:Int))) else lq k (i+1) v):
  ∀(k:List α) (i:Nat) (v:Int),(∀x∈k,bd x=some (f x))→∃j,lq k i v=some (if Aju f k=0 then (1,(v,j)) else (0,(Aju f k,j))):=by
 intro k
 induction k with
 |nil=>intro i v _;exact ⟨i,by rw [hn];rfl⟩
 |cons x k ih=>
  intro i v h
  obtain ⟨j,hj⟩:=ih (i+1) v fun y hy=>h y (by simp [hy])
  rw [hc,h x (by simp),Option.bind_some,Aju]
  by_cases h0:f x=0
  ·exact ⟨j,by rw [h0,Xt];exact hj⟩
  ·exact ⟨i,by rw [Ys h0,Zn h0,cond_true,if_neg h0]⟩
def Bw7(most:Int)(n:Nat)(X:Option (Nat×(Int×Int))):Option Int:=bif decide ((n:Int) > most) then some 6 else X.bind fun o=>Asb o.1 [some o.2.1,some 0]
theorem A6u{α :Type}{f: α→Int}{lq:List α→Nat→Int→Option (Nat×(Int×Int))}{bd: α→Option Int}
  (hn:∀i v,lq [] i v=some (1,(v,(i:Int))))
  (hc:∀x k i v,lq (x::k) i v=(bd x).bind fun o=>bif o != 0 then some (0,(o,(i:Int))) else lq k (i+1) v)
  (most:Nat) (l:List α) (v:Int) (X:Option (Nat×(Int×Int))) (hX:X=lq l 0 v) (hb:∀x∈l,bd x=some (f x)):Bw7 most l.length X=some (if most < l.length then 6 else Aju f l):=by
 unfold Bw7
 by_cases hm:most < l.length
 ·rw [decide_eq_true (show (l.length:Int) > most by omega),if_pos hm];rfl
 ·rw [decide_eq_false (show¬(l.length:Int) > most by omega),if_neg hm,cond_false,hX]
  obtain ⟨j,hj⟩:=Bw8 hn hc l 0 v hb
  rw [hj,Option.bind_some]
  by_cases h0:Aju f l=0
  ·rw [if_pos h0,n8,h0]
  ·rw [if_neg h0,Lx]
theorem Hs(L:Nat)(x lo hi:Int):Bb L x lo hi=some (Bx lo hi x):=by
 simp only [Ab2,Bb,aN,aB,Nx,ge_iff_le,Bx]
theorem Acm(L:Nat)(t:Int):Kj L t=some (N1 t):=by
 simp only [Adq,Kj,aN,aB,Nx,ge_iff_le,N1,Bx]
theorem Ad1(L:Nat)(t n:Int):Rm L t n=some (y6 t n):=by
 simp only [Af0,Rm,aN,aB,Ae4,Hs,Option.bind_some,Xo,y6]
 by_cases h1:t=1
 ·simp [h1]
 ·by_cases h2:t=2
  ·simp [h2]
  ·by_cases h3:t=3
   ·simp [h3]
   ·simp [h1,h2,h3,beq_false_of_ne h1,beq_false_of_ne h2,beq_false_of_ne h3]
theorem V2(L:Nat)(l:List ByteArray)(s:ByteArray)(hl:l.length≤maxLen)(hL:maxLen < L):Bt L l s=some (l.any fun x=>decide (x=s)):=by
 have e:(fun x:ByteArray=>decide (s=x))=fun x=>decide (x=s):=funext fun x=>decide_eq_decide.2 ⟨Eq.symm,Eq.symm⟩
 simp only [Pz,Bt,aN,aB,Gv L l s hl (by omega),Option.bind_some,Agg,e]
end Go.Proofs.YtfencmicmnhglaaGreat.Ev
