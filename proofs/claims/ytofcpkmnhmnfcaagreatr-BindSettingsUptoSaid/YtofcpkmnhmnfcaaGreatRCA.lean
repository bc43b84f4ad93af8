/-  Chapter 11, plainly: what Check says of a model. -/
import Derived.Test.YtofcpkmnhmnfcaaGreatRPK
import Derived.Test.YtofcpkmnhmnfcaaGreatRQA
namespace Go.Proofs.YtofcpkmnhmnfcaaGreatR.Ev
open Go An
set_option maxRecDepth 100000
set_option linter.unusedVariables false
set_option linter.unusedSimpArgs false
set_option linter.unnecessarySimpa false
def fE(a b:Int):Int:=if a=0 then b else a
def unl(c:Bool)(e:Int):Int:=bif c then 0 else e
def k4(bf:List ByteArray)(n:ByteArray):Int:=fE (Ue n) (unl (!bf.any fun x=>decide (x=n)) 4)
def T1(t:Int):Bool:=B1 1 3 t
def Aeu(t n:Int):Bool:=if t=1 then inZ n else if t=2 then (n == 0 || n == 1) else if t=3 then B1 0 1000000000 n else false
def Qt{α :Type}(nm: α→ByteArray)(f: α→Int):List ByteArray→List α→Int×List ByteArray
 |bf,[]=>(0,bf)
 |bf,x::k=>if fE (k4 bf (nm x)) (f x)≠0 then (fE (k4 bf (nm x)) (f x),bf) else Qt nm f (bf++ [nm x]) k
def N0{α :Type}(most:Nat)(nm: α→ByteArray)(f: α→Int)(bf:List ByteArray)(l:List α):Int×List ByteArray:=if most < l.length then (6,bf) else Qt nm f bf l
def Aph{α :Type}(f: α→Int):List α→Int
 | []=>0
 |x::k=>fE (f x) (Aph f k)
def A9v(cy:Int):Option Int→List F7→Int
 |_,[]=>0
 |p,c::k=>if (B1 0 (cy - 1) c.At && B1 0 1000 c.Units)=false then 2
  else if (match p with|some q=>decide (c.At≤q)|none=>false)=true then 12 else A9v cy (some c.At) k
def A39(r:Ah):Int:=if r.Shift.length=0 then unl (r.Cycle == 0) 1 else if 20 < r.Shift.length then 6 else if B1 1 1000000000 r.Cycle=false then 2 else A9v r.Cycle none r.Shift
def Bfz(s:Aa)(f:Jq):Int:=if f.Stream.size=0 then unl (Ajt f.Up Ao6 && Ajt f.Down Ao6) 1 else if s.Streams.any (fun x=>decide (x=f.Stream))=false then 5 else fE (Aym f.Up) (Aym f.Down)
def Br1(s:Aa)(r:Ah):Int:=fE (unl (B1 0 1000 r.Units) 2) (fE (A39 r) (Bfz s r.Fault))
def A4i(x:Ar):Int:=fE (unl (B1 1 1000 x.Room) 2) (unl (B1 1 3 x.Policy) 1)
def A9r(x:Aw):Int:=unl (B1 1 1000 x.Length && B1 1 1000 x.Step) 2
def Vo(v:Ag):Int:=fE (unl (T1 v.Type_) 1) (unl (Aeu v.Type_ v.N) 2)
def A6c(r:Ap):Int:=if 6 < r.Params.length∨16 < r.Params.length+r.Locals.length then 6 else fE (Qt (fun f:Ao=>f.Name) (fun f=>unl (T1 f.Type_) 1) [] (r.Params++r.Locals)).1 (Asy r.Body)
def Beo(s:Aa)(d:Bt):Int:=match s.Routines.find? fun r=>decide (r.Name=d.Routine) with
 |none=>5
 |some r=>if d.Args.length≠r.Params.length then 8 else if ((r.Params.zip d.Args).all fun p=>Aeu p.1.Type_ p.2)=false then 2
  else unl (B1 0 1000000000 d.At && B1 0 1000000000 d.Every && B1 0 1000000000 d.Until && (d.Every != 0 || d.Until == 0)) 2
def A4m(w:ByteArray):Int:=
 if w=⟨#[99,114,101,97,116,101,100]⟩∨w=⟨#[101,110,100,101,100]⟩∨w=⟨#[105,110,115,105,100,101]⟩ then 1
 else if w=⟨#[115,116,111,114,101,100]⟩∨w=⟨#[101,110,116,101,114,101,100]⟩∨w=⟨#[108,101,102,116]⟩ then 2
 else if w=⟨#[99,111,117,110,116,101,100]⟩ then 3 else 0
def Bfs(t:Ay):Int:=unl (B1 (-1000) 1000 t.Coef && t.Coef != 0) 2
def X2(s:Aa)(t:Ay):Int:=
 if A4m t.What=0 then 1
 else if (if A4m t.What=1 then s.Routines.any (fun r=>decide (r.Name=t.Name)) else if A4m t.What=2 then s.Stores.any (fun x=>decide (x.Name=t.Name)) else s.Counts.any (fun x=>decide (x=t.Name)))=false then 5
 else Bfs t
def A73(tm:Ay→Int)(l:Az):Int:=fE (unl (decide (0 < l.Terms.length)) 7) (fE (unl (decide (l.Terms.length≤8)) 6) (fE (Aph tm l.Terms) (unl (inZ l.Total) 2)))
def Adq(p:Int×List ByteArray)(f:List ByteArray→Int×List ByteArray):Int×List ByteArray:=if p.1≠0 then p else f p.2
def txE(bf:List ByteArray)(l:List ByteArray):Int×List ByteArray:=N0 32 (fun x:ByteArray=>x) (fun _=>0) bf l
def Bc9(s:Aa):Int×List ByteArray:=
 Adq (Adq (Adq (Adq (Adq (Adq (Adq (Adq (Adq (N0 32 (fun x:Ag=>x.Name) Vo [] s.Vars)
  fun b=>N0 32 (fun x:Ah=>x.Name) (Br1 s) b s.Resources) fun b=>N0 32 (fun x:Ar=>x.Name) A4i b s.Stores)
  fun b=>N0 32 (fun x:Aw=>x.Name) A9r b s.Belts) fun b=>txE b s.Queues) fun b=>txE b s.Streams) fun b=>txE b s.Tallies)
  fun b=>txE b s.Levels) fun b=>txE b s.Counts) fun b=>N0 16 (fun x:Ap=>x.Name) A6c b s.Routines
def A1c(s:Aa):Int:=if 32 < s.Starts.length then 6 else Aph (Beo s) s.Starts
def Au4(tm:Aa→Ay→Int)(s:Aa):Int:=fE (Bc9 s).1 (fE (A1c s) (N0 32 (fun l:Az=>l.Name) (A73 (tm s)) [] s.Laws).1)
def Ba8(m:Ac)(seen:List Bj)(l:Bj):Int:=
 if (m.Sites.any (fun d=>decide (d.Name=l.From)) && m.Sites.any (fun d=>decide (d.Name=l.To)))=false then 5
 else if l.From=l.To then 1 else if B1 1 1000000000 l.Delay=false then 2
 else unl (!seen.any fun x=>decide (x.From=l.From) && decide (x.To=l.To)) 4
def Ahx(m:Ac):List Bj→List Bj→Int
 |_,[]=>0
 |seen,l::k=>fE (Ba8 m seen l) (Ahx m (seen++ [l]) k)
def Av3(m:Ac):Int:=if 32 < m.Links.length then 6 else Ahx m [] m.Links
def Ah9(tm:Aa→Ay→Int)(m:Ac):Int:=
 fE (Ue m.Name) (fE (N0 32 (fun x:Ag=>x.Name) Vo [] m.Params).1 (fE (unl (decide (0 < m.Sites.length)) 7)
  (fE (N0 16 (fun d:Aa=>d.Name) (Au4 tm) [] m.Sites).1 (Av3 m))))
theorem Apk{a b:Int} :fE a b=0↔a=0∧b=0:=by
 unfold fE
 by_cases h:a=0
 ·rw [if_pos h];simp [h]
 ·rw [if_neg h];simp [h]
theorem v8(b:Int):fE 0 b=b:=rfl
theorem Ace{a b:Int}(h:a≠0):fE a b=a:=if_neg h
theorem Btv{c:Bool}{e:Int}(he:e≠0):unl c e=0↔c=true:=by cases c<;>simp [unl,he]
theorem Cfz{bf:List ByteArray}{n:ByteArray}(h:k4 bf n=0):n∉bf:=by
 have h2:=(Apk.1 h).2
 rw [Btv (by decide)] at h2
 intro hm
 have:(bf.any fun x=>decide (x=n))=true:=List.any_eq_true.2 ⟨n,hm,by simp⟩
 rw [this] at h2;cases h2
def Exd(b:List ByteArray)(x:Int×List ByteArray)(l:List ByteArray):Prop:=x.1=0→x.2=b++l∧(b.Nodup→x.2.Nodup)
theorem A9z{α :Type}(nm: α→ByteArray)(f: α→Int):∀(l:List α) (b:List ByteArray),Exd b (Qt nm f b l) (l.map nm)
 | [],b=>fun _=>⟨by simp [Qt],fun h=>h⟩
 |x::k,b=>by
  intro h
  rw [Qt] at h ⊢
  by_cases hz:fE (k4 b (nm x)) (f x)=0
  ·rw [if_neg (by simp [hz])] at h ⊢
   obtain ⟨h1,h2⟩:=A9z nm f k (b++ [nm x]) h
   have hn:=Cfz (Apk.1 hz).1
   refine ⟨by rw [h1];simp,fun hb=>h2 ?_⟩
   rw [List.nodup_append]
   refine ⟨hb,by simp,?_⟩
   intro a ha c hc hac
   rw [List.mem_singleton] at hc
   subst hc;subst hac
   exact hn ha
  ·rw [if_pos (by simpa using hz)] at h
   exact absurd h hz
theorem Boo{α :Type}(most:Nat)(nm: α→ByteArray)(f: α→Int)(b:List ByteArray)(l:List α):Exd b (N0 most nm f b l) (l.map nm):=by
 intro h
 unfold N0 at h ⊢
 by_cases hm:most < l.length
 ·rw [if_pos hm] at h;exact absurd h (by show¬((6:Int)=0);decide)
 ·rw [if_neg hm] at h ⊢;exact A9z nm f l b h
def tr{α :Type}(ks:List α):List Bool:=List.replicate ks.length true
theorem Bk8{α :Type}(ks:List α)(n: α):tr ks++ [true]=tr (ks++ [n]):=by
 unfold tr;rw [List.length_append,List.length_singleton,List.replicate_succ']
def nx(ks:List ByteArray)(n:ByteArray):List ByteArray:=if k4 ks n=0 then ks++ [n] else ks
def B5a(X:Option Int)(n:ByteArray)(ks:List ByteArray)(vs:List Bool):Option (Int×List ByteArray×List Bool):=
 X.bind fun r=>bif r != 0 then some (r,ks,vs) else fko (ks.findIdx? fun b=>n == b)
  (fun i=>bif vs.getD i default then some (4,ks,vs) else fko (ks.findIdx? fun b=>n == b) (fun j=>some (0,ks,vs.set j true)) (some (0,ks++ [n],vs++ [true])))
  (fko (ks.findIdx? fun b=>n == b) (fun j=>some (0,ks,vs.set j true)) (some (0,ks++ [n],vs++ [true])))
theorem Btu{α :Type}{ks:List α}{i:Nat}(h:i < ks.length):(tr ks).getD i default=true:=by
 unfold tr
 rw [List.getD_eq_getElem?_getD,List.getElem?_replicate,if_pos h];rfl
theorem A2q{α :Type}{ks:List α}{p: α→Bool}(h:ks.findIdx? p=none):ks.any p=false:=by
 rw [List.findIdx?_eq_none_iff] at h
 rw [List.any_eq_false]
 intro x hx
 simp [h x hx]
theorem Avp{α :Type}{ks:List α}{p: α→Bool}{i:Nat}(h:ks.findIdx? p=some i):ks.any p=true:=by
 obtain ⟨h1,h2,_⟩:=List.findIdx?_eq_some_iff_getElem.1 h
 exact List.any_eq_true.2 ⟨_,List.getElem_mem h1,h2⟩
theorem A7k(n b:ByteArray):(n == b)=decide (b=n):=by
 show (n.data == b.data)=_
 rw [Bool.eq_iff_iff,beq_iff_eq,decide_eq_true_iff]
 constructor
 ·intro h;cases n;cases b;cases h;rfl
 ·rintro rfl;rfl
theorem Bwk{X:Option Int}{n:ByteArray}(ks:List ByteArray)(h:X=some (Ue n)):B5a X n ks (tr ks)=some (k4 ks n,nx ks n,tr (nx ks n)):=by
 subst h
 unfold B5a nx k4
 rw [Option.bind_some]
 by_cases h0:Ue n=0
 ·have e:(fun b=>n == b)=fun x:ByteArray=>decide (x=n):=funext fun b=>A7k n b
  rw [h0,e]
  cases hf:ks.findIdx? fun x=>decide (x=n) with
  |none=>
   rw [A2q hf]
   simp only [fko,fE,unl,Bool.not_false,cond_true,if_true,Bk8 ks n]
   rfl
  |some i=>
   rw [Avp hf]
   obtain ⟨h1,_⟩:=List.findIdx?_eq_some_iff_getElem.1 hf
   simp only [fko,Btu h1]
   rfl
 ·rw [ne0 h0,cond_true,Ace h0,if_neg h0]
def Out(X:Option (Int×List ByteArray×List Bool))(p:Int×List ByteArray):Prop:=∃ks,X=some (p.1,ks,tr ks)∧(p.1=0→ks=p.2)
theorem Boq{α :Type}{nm: α→ByteArray}{f: α→Int}{lq:List α→Nat→Int→List ByteArray→List Bool→Option (Nat×(Int×Int×List ByteArray×List Bool))}{bd: α→List ByteArray→List Bool→Option (Int×List ByteArray×List Bool)}
  (hn:∀i v ks vs,lq [] i v ks vs=some (1,(v,(i:Int),ks,vs)))
  (hc:∀x k i v ks vs,lq (x::k) i v ks vs=(bd x ks vs).bind fun o=>bif o.1 != 0 then some (0,(o.1,(i:Int),o.2.1,o.2.2)) else lq k (i+1) v o.2.1 o.2.2):
  ∀(k:List α) (i:Nat) (v:Int) (ks:List ByteArray),(∀x∈k,∀ks,∃ks',bd x ks (tr ks)=some (fE (k4 ks (nm x)) (f x),ks',tr ks')∧(fE (k4 ks (nm x)) (f x)=0→ks'=ks++ [nm x]))→
  ∃j ks',lq k i v ks (tr ks)=some (if (Qt nm f ks k).1=0 then (1,(v,(j,ks',tr ks'))) else (0,((Qt nm f ks k).1,(j,ks',tr ks'))))∧((Qt nm f ks k).1=0→ks'=(Qt nm f ks k).2):=by
 intro k
 induction k with
 |nil=>intro i v ks _;exact ⟨i,ks,by rw [hn,Qt];rfl,fun _=>rfl⟩
 |cons x k ih=>
  intro i v ks h
  obtain ⟨ks1,hb,hz⟩:=h x (by simp) ks
  rw [hc,hb,Option.bind_some]
  by_cases h0:fE (k4 ks (nm x)) (f x)=0
  ·have:=hz h0;subst this
   have e:Qt nm f ks (x::k)=Qt nm f (ks++ [nm x]) k:=by rw [Qt,if_neg (by simp [h0])]
   obtain ⟨j,ks',hj,he⟩:=ih (i+1) v (ks++ [nm x]) fun y hy=>h y (by simp [hy])
   rw [e]
   exact ⟨j,ks',by simp only [h0];exact hj,he⟩
  ·have e:Qt nm f ks (x::k)=(fE (k4 ks (nm x)) (f x),ks):=by rw [Qt,if_pos h0]
   rw [e]
   exact ⟨i,ks1,by simp only [ne0 h0,cond_true,if_neg h0],fun hh=>absurd hh h0⟩
def B1h(most:Int)(n:Nat)(ks:List ByteArray)(vs:List Bool)(X:Option (Nat×(Int×Int×List ByteArray×List Bool))):Option (Int×List ByteArray×List Bool):=
 bif decide ((n:Int) > most) then some (6,ks,vs) else X.bind fun o=>Aw9 o.1 [some (o.2.1,o.2.2.2.1,o.2.2.2.2),some (0,o.2.2.2.1,o.2.2.2.2)]
theorem d7{α :Type}{nm: α→ByteArray}{f: α→Int}{lq:List α→Nat→Int→List ByteArray→List Bool→Option (Nat×(Int×Int×List ByteArray×List Bool))}{bd: α→List ByteArray→List Bool→Option (Int×List ByteArray×List Bool)}
  (hn:∀i v ks vs,lq [] i v ks vs=some (1,(v,(i:Int),ks,vs)))
  (hc:∀x k i v ks vs,lq (x::k) i v ks vs=(bd x ks vs).bind fun o=>bif o.1 != 0 then some (0,(o.1,(i:Int),o.2.1,o.2.2)) else lq k (i+1) v o.2.1 o.2.2)
  (most:Nat) (l:List α) (v:Int) (ks:List ByteArray) (X:Option (Nat×(Int×Int×List ByteArray×List Bool))) (hX:X=lq l 0 v ks (tr ks))
  (hb:∀x∈l,∀ks,∃ks',bd x ks (tr ks)=some (fE (k4 ks (nm x)) (f x),ks',tr ks')∧(fE (k4 ks (nm x)) (f x)=0→ks'=ks++ [nm x])):
  Out (B1h most l.length ks (tr ks) X) (N0 most nm f ks l):=by
 unfold Out B1h N0
 by_cases hm:most < l.length
 ·rw [decide_eq_true (show (l.length:Int) > most by omega),if_pos hm]
  exact ⟨ks,rfl,fun _=>rfl⟩
 ·rw [decide_eq_false (show¬(l.length:Int) > most by omega),if_neg hm,cond_false,hX]
  obtain ⟨j,ks',hj,he⟩:=Boq hn hc l 0 v ks hb
  refine ⟨ks',?_,he⟩
  rw [hj,Option.bind_some]
  by_cases h0:(Qt nm f ks l).1=0
  ·rw [if_pos h0,Sr,h0]
  ·rw [if_neg h0,Nb]
def Gl(e:Int)(X:Option (Int×List ByteArray×List Bool)):Prop:=∃a b,X=some (e,a,b)
theorem Cic{X:Option (Int×List ByteArray×List Bool)}{p:Int×List ByteArray}{e:Int}{G:Int×List ByteArray×List Bool→Option (Int×List ByteArray×List Bool)}(hX:Out X p)
  (hG:∀e a b,e≠0→G (e,a,b)=some (e,a,b)) (h:∀ks,Gl e (G (0,ks,tr ks))):Gl (fE p.1 e) (X.bind G):=by
 obtain ⟨ks,rfl,h0⟩:=hX
 rw [Option.bind_some]
 by_cases hp:p.1=0
 ·rw [hp,v8];exact h ks
 ·rw [hG _ _ _ hp,Ace hp];exact ⟨_,_,rfl⟩
theorem Au8{X:Option (Int×List ByteArray×List Bool)}{p:Int×List ByteArray}{e:Int}{f:List ByteArray→Int×List ByteArray}{G:Int×List ByteArray×List Bool→Option (Int×List ByteArray×List Bool)}(hX:Out X p)
  (hG:∀e a b,e≠0→G (e,a,b)=some (e,a,b)) (h:∀ks,Gl (fE (f ks).1 e) (G (0,ks,tr ks))):Gl (fE (Adq p f).1 e) (X.bind G):=by
 obtain ⟨ks,rfl,h0⟩:=hX
 rw [Option.bind_some]
 unfold Adq
 by_cases hp:p.1=0
 ·rw [if_neg (by simp [hp]),←h0 hp,hp];exact h ks
 ·rw [if_pos hp,hG _ _ _ hp,Ace hp];exact ⟨_,_,rfl⟩
theorem nzE{e:Int}(h:e≠0)(a:List ByteArray)(b:List Bool)(Y:Option (Int×List ByteArray×List Bool)):(bif e != 0 then some (e,a,b) else Y)=some (e,a,b):=by rw [ne0 h];rfl
theorem Bey(p:Int×List ByteArray)(f g:List ByteArray→Int×List ByteArray):Adq (Adq p f) g=Adq p fun b=>Adq (f b) g:=by
 unfold Adq
 by_cases hp:p.1=0
 ·simp [hp]
 ·simp [hp]
theorem Cc4{α :Type}{f: α→Int}{lq:List α→Nat→Int→Option (Nat×(Int×Int))}{bd: α→Option Int}
  (hn:∀i v,lq [] i v=some (1,(v,(i:Int))))
  (hc:∀x k i v,lq (x::k) i v=(bd x).bind fun o=>bif o != 0 then some (0,(o,(i:Int))) else lq k (i+1) v):
  ∀(k:List α) (i:Nat) (v:Int),(∀x∈k,bd x=some (f x))→∃j,lq k i v=some (if Aph f k=0 then (1,(v,j)) else (0,(Aph f k,j))):=by
 intro k
 induction k with
 |nil=>intro i v _;exact ⟨i,by rw [hn];rfl⟩
 |cons x k ih=>
  intro i v h
  obtain ⟨j,hj⟩:=ih (i+1) v fun y hy=>h y (by simp [hy])
  rw [hc,h x (by simp),Option.bind_some,Aph]
  by_cases h0:f x=0
  ·exact ⟨j,by rw [h0,v8];exact hj⟩
  ·exact ⟨i,by rw [Ace h0,ne0 h0,cond_true,if_neg h0]⟩
def Cc3(most:Int)(n:Nat)(X:Option (Nat×(Int×Int))):Option Int:=bif decide ((n:Int) > most) then some 6 else X.bind fun o=>Aw9 o.1 [some o.2.1,some 0]
theorem Bfp{α :Type}{f: α→Int}{lq:List α→Nat→Int→Option (Nat×(Int×Int))}{bd: α→Option Int}
  (hn:∀i v,lq [] i v=some (1,(v,(i:Int))))
  (hc:∀x k i v,lq (x::k) i v=(bd x).bind fun o=>bif o != 0 then some (0,(o,(i:Int))) else lq k (i+1) v)
  (most:Nat) (l:List α) (v:Int) (X:Option (Nat×(Int×Int))) (hX:X=lq l 0 v) (hb:∀x∈l,bd x=some (f x)):Cc3 most l.length X=some (if most < l.length then 6 else Aph f l):=by
 unfold Cc3
 by_cases hm:most < l.length
 ·rw [decide_eq_true (show (l.length:Int) > most by omega),if_pos hm];rfl
 ·rw [decide_eq_false (show¬(l.length:Int) > most by omega),if_neg hm,cond_false,hX]
  obtain ⟨j,hj⟩:=Cc4 hn hc l 0 v hb
  rw [hj,Option.bind_some]
  by_cases h0:Aph f l=0
  ·rw [if_pos h0,Sr,h0]
  ·rw [if_neg h0,Nb]
theorem H1(L:Nat)(x lo hi:Int):Be L x lo hi=some (B1 lo hi x):=by
 simp only [Ael,Be,aN,aB,Ny,ge_iff_le,B1]
theorem Afm(L:Nat)(t:Int):K6 L t=some (T1 t):=by
 simp only [Aho,K6,aN,aB,Ny,ge_iff_le,T1,B1]
theorem Aib(L:Nat)(t n:Int):Si L t n=some (Aeu t n):=by
 simp only [Akl,Si,aN,aB,Apc,H1,Option.bind_some,Zl,Aeu]
 by_cases h1:t=1
 ·simp [h1]
 ·by_cases h2:t=2
  ·simp [h2]
  ·by_cases h3:t=3
   ·simp [h3]
   ·simp [h1,h2,h3,beq_false_of_ne h1,beq_false_of_ne h2,beq_false_of_ne h3]
theorem Xi(L:Nat)(l:List ByteArray)(s:ByteArray)(hl:l.length≤maxLen)(hL:maxLen < L):Bs L l s=some (l.any fun x=>decide (x=s)):=by
 have e:(fun x:ByteArray=>decide (s=x))=fun x=>decide (x=s):=funext fun x=>decide_eq_decide.2 ⟨Eq.symm,Eq.symm⟩
 simp only [Qh,Bs,aN,aB,Gr L l s hl (by omega),Option.bind_some,Apa,e]
end Go.Proofs.YtofcpkmnhmnfcaaGreatR.Ev
