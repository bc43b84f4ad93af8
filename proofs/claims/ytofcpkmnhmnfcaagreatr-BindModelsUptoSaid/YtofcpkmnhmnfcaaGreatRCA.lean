/-  Chapter 11, plainly: what Check says of a model. -/
import Derived.Test.YtofcpkmnhmnfcaaGreatRPK
import Derived.Test.YtofcpkmnhmnfcaaGreatRQA
namespace Go.Proofs.YtofcpkmnhmnfcaaGreatR.Ev
open Go An
set_option maxRecDepth 100000
set_option linter.unusedVariables false
set_option linter.unusedSimpArgs false
set_option linter.unnecessarySimpa false
def fE(a b:Int):Int:=if a=0 then b else a
def unl(c:Bool)(e:Int):Int:=bif c then 0 else e
def Yt(bf:List ByteArray)(n:ByteArray):Int:=fE (Sy n) (unl (!bf.any fun x=>decide (x=n)) 4)
def Oy(t:Int):Bool:=Bm 1 3 t
def Afy(t n:Int):Bool:=if t=1 then inZ n else if t=2 then (n == 0 || n == 1) else if t=3 then Bm 0 1000000000 n else false
def F2{α :Type}(nm: α→ByteArray)(f: α→Int):List ByteArray→List α→Int×List ByteArray
 |bf,[]=>(0,bf)
 |bf,x::k=>if fE (Yt bf (nm x)) (f x)≠0 then (fE (Yt bf (nm x)) (f x),bf) else F2 nm f (bf++ [nm x]) k
def Lz{α :Type}(most:Nat)(nm: α→ByteArray)(f: α→Int)(bf:List ByteArray)(l:List α):Int×List ByteArray:=if most < l.length then (6,bf) else F2 nm f bf l
def Ak6{α :Type}(f: α→Int):List α→Int
 | []=>0
 |x::k=>fE (f x) (Ak6 f k)
def A7b(cy:Int):Option Int→List F1→Int
 |_,[]=>0
 |p,c::k=>if (Bm 0 (cy - 1) c.At && Bm 0 1000 c.Units)=false then 2
  else if (match p with|some q=>decide (c.At≤q)|none=>false)=true then 12 else A7b cy (some c.At) k
def Ax5(r:Ah):Int:=if r.Shift.length=0 then unl (r.Cycle == 0) 1 else if 20 < r.Shift.length then 6 else if Bm 1 1000000000 r.Cycle=false then 2 else A7b r.Cycle none r.Shift
def Bmi(s:Aa)(f:Ki):Int:=if f.Stream.size=0 then unl (Amw f.Up Ajt && Amw f.Down Ajt) 1 else if s.Streams.any (fun x=>decide (x=f.Stream))=false then 5 else fE (Av8 f.Up) (Av8 f.Down)
def Bih(s:Aa)(r:Ah):Int:=fE (unl (Bm 0 1000 r.Units) 2) (fE (Ax5 r) (Bmi s r.Fault))
def Ax9(x:Ar):Int:=fE (unl (Bm 1 1000 x.Room) 2) (unl (Bm 1 3 x.Policy) 1)
def A66(x:Ax):Int:=unl (Bm 1 1000 x.Length && Bm 1 1000 x.Step) 2
def V8(v:Ag):Int:=fE (unl (Oy v.Type_) 1) (unl (Afy v.Type_ v.N) 2)
def Az6(r:Am):Int:=if 6 < r.Params.length∨16 < r.Params.length+r.Locals.length then 6 else fE (F2 (fun f:Ap=>f.Name) (fun f=>unl (Oy f.Type_) 1) [] (r.Params++r.Locals)).1 (Aox r.Body)
def A2f(s:Aa)(d:Br):Int:=match s.Routines.find? fun r=>decide (r.Name=d.Routine) with
 |none=>5
 |some r=>if d.Args.length≠r.Params.length then 8 else if ((r.Params.zip d.Args).all fun p=>Afy p.1.Type_ p.2)=false then 2
  else unl (Bm 0 1000000000 d.At && Bm 0 1000000000 d.Every && Bm 0 1000000000 d.Until && (d.Every != 0 || d.Until == 0)) 2
def Aku(w:ByteArray):Int:=
 if w=⟨#[99,114,101,97,116,101,100]⟩∨w=⟨#[101,110,100,101,100]⟩∨w=⟨#[105,110,115,105,100,101]⟩ then 1
 else if w=⟨#[115,116,111,114,101,100]⟩∨w=⟨#[101,110,116,101,114,101,100]⟩∨w=⟨#[108,101,102,116]⟩ then 2
 else if w=⟨#[99,111,117,110,116,101,100]⟩ then 3 else 0
def A28(t:Ay):Int:=unl (Bm (-1000) 1000 t.Coef && t.Coef != 0) 2
def Vn(s:Aa)(t:Ay):Int:=
 if Aku t.What=0 then 1
 else if (if Aku t.What=1 then s.Routines.any (fun r=>decide (r.Name=t.Name)) else if Aku t.What=2 then s.Stores.any (fun x=>decide (x.Name=t.Name)) else s.Counts.any (fun x=>decide (x=t.Name)))=false then 5
 else A28 t
def Ae4(s:Aa)(t:Ay):Int:=
 if Aku t.What=0 then 1
 else if Hf s t.Name≠(if Aku t.What=1 then Y8 else if Aku t.What=2 then Ja else Uv) then 5
 else A28 t
def A32(tm:Ay→Int)(l:A9):Int:=fE (unl (decide (0 < l.Terms.length)) 7) (fE (unl (decide (l.Terms.length≤8)) 6) (fE (Ak6 tm l.Terms) (unl (inZ l.Total) 2)))
def Ps(p:Int×List ByteArray)(f:List ByteArray→Int×List ByteArray):Int×List ByteArray:=if p.1≠0 then p else f p.2
def txE(bf:List ByteArray)(l:List ByteArray):Int×List ByteArray:=Lz 32 (fun x:ByteArray=>x) (fun _=>0) bf l
def Ari(s:Aa):Int×List ByteArray:=
 Ps (Ps (Ps (Ps (Ps (Ps (Ps (Ps (Ps (Lz 32 (fun x:Ag=>x.Name) V8 [] s.Vars)
  fun b=>Lz 32 (fun x:Ah=>x.Name) (Bih s) b s.Resources) fun b=>Lz 32 (fun x:Ar=>x.Name) Ax9 b s.Stores)
  fun b=>Lz 32 (fun x:Ax=>x.Name) A66 b s.Belts) fun b=>txE b s.Queues) fun b=>txE b s.Streams) fun b=>txE b s.Tallies)
  fun b=>txE b s.Levels) fun b=>txE b s.Counts) fun b=>Lz 16 (fun x:Am=>x.Name) Az6 b s.Routines
def A0a(s:Aa):Int:=if 32 < s.Starts.length then 6 else Ak6 (A2f s) s.Starts
def Ajp(tm:Aa→Ay→Int)(s:Aa):Int:=fE (Ari s).1 (fE (A0a s) (Lz 32 (fun l:A9=>l.Name) (A32 (tm s)) [] s.Laws).1)
def Bha(m:Ac)(seen:List Bk)(l:Bk):Int:=
 if (m.Sites.any (fun d=>decide (d.Name=l.From)) && m.Sites.any (fun d=>decide (d.Name=l.To)))=false then 5
 else if l.From=l.To then 1 else if Bm 1 1000000000 l.Delay=false then 2
 else unl (!seen.any fun x=>decide (x.From=l.From) && decide (x.To=l.To)) 4
def Ake(m:Ac):List Bk→List Bk→Int
 |_,[]=>0
 |seen,l::k=>fE (Bha m seen l) (Ake m (seen++ [l]) k)
def A7w(m:Ac):Int:=if 32 < m.Links.length then 6 else Ake m [] m.Links
def Aeg(tm:Aa→Ay→Int)(m:Ac):Int:=
 fE (Sy m.Name) (fE (Lz 32 (fun x:Ag=>x.Name) V8 [] m.Params).1 (fE (unl (decide (0 < m.Sites.length)) 7)
  (fE (Lz 16 (fun d:Aa=>d.Name) (Ajp tm) [] m.Sites).1 (A7w m))))
theorem Bf8{a b:Int} :fE a b=0↔a=0∧b=0:=by
 unfold fE
 by_cases h:a=0
 ·rw [if_pos h];simp [h]
 ·rw [if_neg h];simp [h]
theorem Vx(b:Int):fE 0 b=b:=rfl
theorem Rr{a b:Int}(h:a≠0):fE a b=a:=if_neg h
theorem Bz0{c:Bool}{e:Int}(he:e≠0):unl c e=0↔c=true:=by cases c<;>simp [unl,he]
theorem Cma{bf:List ByteArray}{n:ByteArray}(h:Yt bf n=0):n∉bf:=by
 have h2:=(Bf8.1 h).2
 rw [Bz0 (by decide)] at h2
 intro hm
 have:(bf.any fun x=>decide (x=n))=true:=List.any_eq_true.2 ⟨n,hm,by simp⟩
 rw [this] at h2;cases h2
def Exd(b:List ByteArray)(x:Int×List ByteArray)(l:List ByteArray):Prop:=x.1=0→x.2=b++l∧(b.Nodup→x.2.Nodup)
theorem A7h{α :Type}(nm: α→ByteArray)(f: α→Int):∀(l:List α) (b:List ByteArray),Exd b (F2 nm f b l) (l.map nm)
 | [],b=>fun _=>⟨by simp [F2],fun h=>h⟩
 |x::k,b=>by
  intro h
  rw [F2] at h ⊢
  by_cases hz:fE (Yt b (nm x)) (f x)=0
  ·rw [if_neg (by simp [hz])] at h ⊢
   obtain ⟨h1,h2⟩:=A7h nm f k (b++ [nm x]) h
   have hn:=Cma (Bf8.1 hz).1
   refine ⟨by rw [h1];simp,fun hb=>h2 ?_⟩
   rw [List.nodup_append]
   refine ⟨hb,by simp,?_⟩
   intro a ha c hc hac
   rw [List.mem_singleton] at hc
   subst hc;subst hac
   exact hn ha
  ·rw [if_pos (by simpa using hz)] at h
   exact absurd h hz
theorem Amd{α :Type}(most:Nat)(nm: α→ByteArray)(f: α→Int)(b:List ByteArray)(l:List α):Exd b (Lz most nm f b l) (l.map nm):=by
 intro h
 unfold Lz at h ⊢
 by_cases hm:most < l.length
 ·rw [if_pos hm] at h;exact absurd h (by show¬((6:Int)=0);decide)
 ·rw [if_neg hm] at h ⊢;exact A7h nm f l b h
theorem Ae5{b l1 l2:List ByteArray}{p:Int×List ByteArray}{f:List ByteArray→Int×List ByteArray}(h1:Exd b p l1)(h2:∀c,Exd c (f c) l2):Exd b (Ps p f) (l1++l2):=by
 intro h
 unfold Ps at h ⊢
 by_cases hp:p.1=0
 ·rw [if_neg (by simp [hp])] at h ⊢
  obtain ⟨e1,n1⟩:=h1 hp
  obtain ⟨e2,n2⟩:=h2 p.2 h
  exact ⟨by rw [e2,e1,List.append_assoc],fun hb=>n2 (n1 hb)⟩
 ·rw [if_pos (by simpa using hp)] at h
  exact absurd h hp
theorem A9u(b l:List ByteArray):Exd b (txE b l) l:=by
 have:=Amd 32 (fun x:ByteArray=>x) (fun _=>0) b l
 rw [List.map_id'] at this
 exact this
theorem Bsq(s:Aa):Exd [] (Ari s) (s.Vars.map (·.Name)++s.Resources.map (·.Name)++s.Stores.map (·.Name)++s.Belts.map (·.Name)++s.Queues++s.Streams++s.Tallies++s.Levels++s.Counts++s.Routines.map (·.Name)):=
 Ae5 (Ae5 (Ae5 (Ae5 (Ae5 (Ae5 (Ae5 (Ae5 (Ae5 (Amd _ _ _ _ _) fun _=>Amd _ _ _ _ _) fun _=>Amd _ _ _ _ _) fun _=>Amd _ _ _ _ _)
  fun _=>A9u _ _) fun _=>A9u _ _) fun _=>A9u _ _) fun _=>A9u _ _) fun _=>A9u _ _) fun _=>Amd _ _ _ _ _
def Uni(s:Aa):Prop:=(s.Vars.map (·.Name)++s.Resources.map (·.Name)++s.Stores.map (·.Name)++s.Belts.map (·.Name)++s.Queues++s.Streams++s.Tallies++s.Levels++s.Counts++s.Routines.map (·.Name)).Nodup
theorem Bsr{s:Aa}(h:(Ari s).1=0):Uni s:=by
 obtain ⟨h1,h2⟩:=Bsq s h
 have:=h2 List.nodup_nil
 rw [h1,List.nil_append] at this
 exact this
theorem Cdz{a b:List ByteArray}{n:ByteArray}(h:(a++b).Nodup)(hn:n∈b):n∉a:=fun ha=>(List.nodup_append.1 h).2.2 n ha n hn rfl
theorem Bhi{a b:List ByteArray}(h:(a++b).Nodup):a.Nodup:=(List.nodup_append.1 h).1
theorem Bjm{α :Type}(nm: α→ByteArray)(l:List α)(n:ByteArray):(l.any fun x=>decide (nm x=n))=true↔n∈l.map nm:=by
 rw [List.any_eq_true,List.mem_map]
 exact ⟨fun ⟨x,h1,h2⟩=>⟨x,h1,of_decide_eq_true h2⟩,fun ⟨x,h1,h2⟩=>⟨x,h1,decide_eq_true h2⟩⟩
theorem Buq(l:List ByteArray)(n:ByteArray):(l.any fun x=>decide (n=x))=true↔n∈l:=by
 rw [List.any_eq_true]
 exact ⟨fun ⟨x,h1,h2⟩=>by rw [of_decide_eq_true h2];exact h1,fun h=>⟨n,h,by simp⟩⟩
theorem Ah0{α :Type}(nm: α→ByteArray)(l:List α)(n:ByteArray)(h:n∉l.map nm):(l.any fun x=>decide (nm x=n))=false:=Bool.eq_false_iff.2 fun hh=>h ((Bjm nm l n).1 hh)
theorem Ak7(l:List ByteArray)(n:ByteArray)(h:n∉l):(l.any fun x=>decide (n=x))=false:=Bool.eq_false_iff.2 fun hh=>h ((Buq l n).1 hh)
theorem neK{a b:ByteArray}(h:decide (a=b)=false)(i:Int):(a,i).1≠b:=of_decide_eq_false h
theorem Bdt{s:Aa}(hu:Uni s)(n:ByteArray):decide (Hf s n=Y8)=s.Routines.any fun x=>decide (x.Name=n):=by
 cases h10:s.Routines.any fun x=>decide (x.Name=n) with
 |true=>
  have hm:=Cdz hu ((Bjm _ _ _).1 h10)
  simp only [List.mem_append,not_or] at hm
  obtain ⟨⟨⟨⟨⟨⟨⟨⟨a1,a2⟩,a3⟩,a4⟩,a5⟩,a6⟩,a7⟩,a8⟩,a9⟩:=hm
  simp only [Hf,Aou,Ah0 _ _ _ a1,Ah0 _ _ _ a2,Ah0 _ _ _ a3,Ah0 _ _ _ a4,Ak7 _ _ a5,Ak7 _ _ a6,Ak7 _ _ a7,Ak7 _ _ a8,Ak7 _ _ a9,h10,cond_false,cond_true,decide_true]
 |false=>
  apply decide_eq_false
  unfold Hf Aou
  rw [h10]
  simp only [cond_false]
  repeat' (refine (?_:Prod.fst (bif _ then _ else _)≠_);rw [Bool.cond_eq_ite];split;(· exact neK rfl _))
  exact neK rfl _
theorem Bka{s:Aa}(hu:Uni s)(n:ByteArray):decide (Hf s n=Ja)=s.Stores.any fun x=>decide (x.Name=n):=by
 cases h10:s.Stores.any fun x=>decide (x.Name=n) with
 |true=>
  have hm:=Cdz (Bhi (Bhi (Bhi (Bhi (Bhi (Bhi (Bhi hu))))))) ((Bjm _ _ _).1 h10)
  simp only [List.mem_append,not_or] at hm
  obtain ⟨a1,a2⟩:=hm
  simp only [Hf,Aou,Ah0 _ _ _ a1,Ah0 _ _ _ a2,h10,cond_false,cond_true,decide_true]
 |false=>
  apply decide_eq_false
  unfold Hf Aou
  rw [h10]
  simp only [cond_false]
  repeat' (refine (?_:Prod.fst (bif _ then _ else _)≠_);rw [Bool.cond_eq_ite];split;(· exact neK rfl _))
  exact neK rfl _
theorem Bj9{s:Aa}(hu:Uni s)(n:ByteArray):decide (Hf s n=Uv)=s.Counts.any fun x=>decide (x=n):=by
 have e:(s.Counts.any fun x=>decide (x=n))=s.Counts.any fun x=>decide (n=x):=by
  congr 1;funext x;exact decide_eq_decide.2 ⟨Eq.symm,Eq.symm⟩
 rw [e]
 cases h10:s.Counts.any fun x=>decide (n=x) with
 |true=>
  have hm:=Cdz (Bhi hu) ((Buq _ _).1 h10)
  simp only [List.mem_append,not_or] at hm
  obtain ⟨⟨⟨⟨⟨⟨⟨a1,a2⟩,a3⟩,a4⟩,a5⟩,a6⟩,a7⟩,a8⟩:=hm
  simp only [Hf,Aou,Ah0 _ _ _ a1,Ah0 _ _ _ a2,Ah0 _ _ _ a3,Ah0 _ _ _ a4,Ak7 _ _ a5,Ak7 _ _ a6,Ak7 _ _ a7,Ak7 _ _ a8,h10,cond_false,cond_true,decide_true]
 |false=>
  apply decide_eq_false
  unfold Hf Aou
  rw [h10]
  simp only [cond_false]
  repeat' (refine (?_:Prod.fst (bif _ then _ else _)≠_);rw [Bool.cond_eq_ite];split;(· exact neK rfl _))
  exact neK rfl _
theorem B67{s:Aa}(hu:Uni s)(t:Ay):Vn s t=Ae4 s t:=by
 unfold Vn Ae4
 have h1:=Bdt hu t.Name
 have h2:=Bka hu t.Name
 have h3:=Bj9 hu t.Name
 by_cases hw:Aku t.What=0
 ·rw [if_pos hw,if_pos hw]
 ·rw [if_neg hw,if_neg hw]
  by_cases w1:Aku t.What=1
  ·simp only [w1,if_true]
   rw [←h1]
   by_cases hk:Hf s t.Name=Y8<;>simp [hk]
  ·by_cases w2:Aku t.What=2
   ·simp only [w1,w2,if_true,if_false]
    rw [←h2]
    by_cases hk:Hf s t.Name=Ja<;>simp [hk]
   ·simp only [w1,w2,if_false]
    rw [←h3]
    by_cases hk:Hf s t.Name=Uv<;>simp [hk]
theorem B60(s:Aa):Ajp Vn s=Ajp Ae4 s:=by
 unfold Ajp
 by_cases h:(Ari s).1=0
 ·have:Vn s=Ae4 s:=funext (B67 (Bsr h))
  rw [this]
 ·rw [Rr h,Rr h]
theorem Bxw(m:Ac):Aeg Vn m=Aeg Ae4 m:=by
 have:Ajp Vn=Ajp Ae4:=funext B60
 unfold Aeg
 rw [this]
def tr{α :Type}(ks:List α):List Bool:=List.replicate ks.length true
theorem Bro{α :Type}(ks:List α)(n: α):tr ks++ [true]=tr (ks++ [n]):=by
 unfold tr;rw [List.length_append,List.length_singleton,List.replicate_succ']
def nx(ks:List ByteArray)(n:ByteArray):List ByteArray:=if Yt ks n=0 then ks++ [n] else ks
def Cbe(X:Option Int)(n:ByteArray)(ks:List ByteArray)(vs:List Bool):Option (Int×List ByteArray×List Bool):=
 X.bind fun r=>bif r != 0 then some (r,ks,vs) else fko (ks.findIdx? fun b=>n == b)
  (fun i=>bif vs.getD i default then some (4,ks,vs) else fko (ks.findIdx? fun b=>n == b) (fun j=>some (0,ks,vs.set j true)) (some (0,ks++ [n],vs++ [true])))
  (fko (ks.findIdx? fun b=>n == b) (fun j=>some (0,ks,vs.set j true)) (some (0,ks++ [n],vs++ [true])))
theorem Bzx{α :Type}{ks:List α}{i:Nat}(h:i < ks.length):(tr ks).getD i default=true:=by
 unfold tr
 rw [List.getD_eq_getElem?_getD,List.getElem?_replicate,if_pos h];rfl
theorem Ay1{α :Type}{ks:List α}{p: α→Bool}(h:ks.findIdx? p=none):ks.any p=false:=by
 rw [List.findIdx?_eq_none_iff] at h
 rw [List.any_eq_false]
 intro x hx
 simp [h x hx]
theorem Au7{α :Type}{ks:List α}{p: α→Bool}{i:Nat}(h:ks.findIdx? p=some i):ks.any p=true:=by
 obtain ⟨h1,h2,_⟩:=List.findIdx?_eq_some_iff_getElem.1 h
 exact List.any_eq_true.2 ⟨_,List.getElem_mem h1,h2⟩
theorem Bdc(n b:ByteArray):(n == b)=decide (b=n):=by
 show (n.data == b.data)=_
 rw [Bool.eq_iff_iff,beq_iff_eq,decide_eq_true_iff]
 constructor
 ·intro h;cases n;cases b;cases h;rfl
 ·rintro rfl;rfl
theorem B2u{X:Option Int}{n:ByteArray}(ks:List ByteArray)(h:X=some (Sy n)):Cbe X n ks (tr ks)=some (Yt ks n,nx ks n,tr (nx ks n)):=by
 subst h
 unfold Cbe nx Yt
 rw [Option.bind_some]
 by_cases h0:Sy n=0
 ·have e:(fun b=>n == b)=fun x:ByteArray=>decide (x=n):=funext fun b=>Bdc n b
  rw [h0,e]
  cases hf:ks.findIdx? fun x=>decide (x=n) with
  |none=>
   rw [Ay1 hf]
   simp only [fko,fE,unl,Bool.not_false,cond_true,if_true,Bro ks n]
   rfl
  |some i=>
   rw [Au7 hf]
   obtain ⟨h1,_⟩:=List.findIdx?_eq_some_iff_getElem.1 hf
   simp only [fko,Bzx h1]
   rfl
 ·rw [Wl h0,cond_true,Rr h0,if_neg h0]
def Out(X:Option (Int×List ByteArray×List Bool))(p:Int×List ByteArray):Prop:=∃ks,X=some (p.1,ks,tr ks)∧(p.1=0→ks=p.2)
theorem Bu2{α :Type}{nm: α→ByteArray}{f: α→Int}{lq:List α→Nat→Int→List ByteArray→List Bool→Option (Nat×(Int×Int×List ByteArray×List Bool))}{bd: α→List ByteArray→List Bool→Option (Int×List ByteArray×List Bool)}
  (hn:∀i v ks vs,lq [] i v ks vs=some (1,(v,(i:Int),ks,vs)))
  (hc:∀x k i v ks vs,lq (x::k) i v ks vs=(bd x ks vs).bind fun o=>bif o.1 != 0 then some (0,(o.1,(i:Int),o.2.1,o.2.2)) else lq k (i+1) v o.2.1 o.2.2):
  ∀(k:List α) (i:Nat) (v:Int) (ks:List ByteArray),(∀x∈k,∀ks,∃ks',bd x ks (tr ks)=some (fE (Yt ks (nm x)) (f x),ks',tr ks')∧(fE (Yt ks (nm x)) (f x)=0→ks'=ks++ [nm x]))→
  ∃j ks',lq k i v ks (tr ks)=some (if (F2 nm f ks k).1=0 then (1,(v,(j,ks',tr ks'))) else (0,((F2 nm f ks k).1,(j,ks',tr ks'))))∧((F2 nm f ks k).1=0→ks'=(F2 nm f ks k).2):=by
 intro k
 induction k with
 |nil=>intro i v ks _;exact ⟨i,ks,by rw [hn,F2];rfl,fun _=>rfl⟩
 |cons x k ih=>
  intro i v ks h
  obtain ⟨ks1,hb,hz⟩:=h x (by simp) ks
  rw [hc,hb,Option.bind_some]
  by_cases h0:fE (Yt ks (nm x)) (f x)=0
  ·have:=hz h0;subst this
   have e:F2 nm f ks (x::k)=F2 nm f (ks++ [nm x]) k:=by rw [F2,if_neg (by simp [h0])]
   obtain ⟨j,ks',hj,he⟩:=ih (i+1) v (ks++ [nm x]) fun y hy=>h y (by simp [hy])
   rw [e]
   exact ⟨j,ks',by simp only [h0];exact hj,he⟩
  ·have e:F2 nm f ks (x::k)=(fE (Yt ks (nm x)) (f x),ks):=by rw [F2,if_pos h0]
   rw [e]
   exact ⟨i,ks1,by simp only [Wl h0,cond_true,if_neg h0],fun hh=>absurd hh h0⟩
def B7j(most:Int)(n:Nat)(ks:List ByteArray)(vs:List Bool)(X:Option (Nat×(Int×Int×List ByteArray×List Bool))):Option (Int×List ByteArray×List Bool):=
 bif decide ((n:Int) > most) then some (6,ks,vs) else X.bind fun o=>As0 o.1 [some (o.2.1,o.2.2.2.1,o.2.2.2.2),some (0,o.2.2.2.1,o.2.2.2.2)]
theorem Ado{α :Type}{nm: α→ByteArray}{f: α→Int}{lq:List α→Nat→Int→List ByteArray→List Bool→Option (Nat×(Int×Int×List ByteArray×List Bool))}{bd: α→List ByteArray→List Bool→Option (Int×List ByteArray×List Bool)}
  (hn:∀i v ks vs,lq [] i v ks vs=some (1,(v,(i:Int),ks,vs)))
  (hc:∀x k i v ks vs,lq (x::k) i v ks vs=(bd x ks vs).bind fun o=>bif o.1 != 0 then some (0,(o.1,(i:Int),o.2.1,o.2.2)) else lq k (i+1) v o.2.1 o.2.2)
  (most:Nat) (l:List α) (v:Int) (ks:List ByteArray) (X:Option (Nat×(Int×Int×List ByteArray×List Bool))) (hX:X=lq l 0 v ks (tr ks))
  (hb:∀x∈l,∀ks,∃ks',bd x ks (tr ks)=some (fE (Yt ks (nm x)) (f x),ks',tr ks')∧(fE (Yt ks (nm x)) (f x)=0→ks'=ks++ [nm x])):
  Out (B7j most l.length ks (tr ks) X) (Lz most nm f ks l):=by
 unfold Out B7j Lz
 by_cases hm:most < l.length
 ·rw [decide_eq_true (show (l.length:Int) > most by omega),if_pos hm]
  exact ⟨ks,rfl,fun _=>rfl⟩
 ·rw [decide_eq_false (show¬(l.length:Int) > most by omega),if_neg hm,cond_false,hX]
  obtain ⟨j,ks',hj,he⟩:=Bu2 hn hc l 0 v ks hb
  refine ⟨ks',?_,he⟩
  rw [hj,Option.bind_some]
  by_cases h0:(F2 nm f ks l).1=0
  ·rw [if_pos h0,Kx,h0]
  ·rw [if_neg h0,Gm]
def Gl(e:Int)(X:Option (Int×List ByteArray×List Bool)):Prop:=∃a b,X=some (e,a,b)
theorem Con{X:Option (Int×List ByteArray×List Bool)}{p:Int×List ByteArray}{e:Int}{G:Int×List ByteArray×List Bool→Option (Int×List ByteArray×List Bool)}(hX:Out X p)
  (hG:∀e a b,e≠0→G (e,a,b)=some (e,a,b)) (h:∀ks,Gl e (G (0,ks,tr ks))):Gl (fE p.1 e) (X.bind G):=by
 obtain ⟨ks,rfl,h0⟩:=hX
 rw [Option.bind_some]
 by_cases hp:p.1=0
 ·rw [hp,Vx];exact h ks
 ·rw [hG _ _ _ hp,Rr hp];exact ⟨_,_,rfl⟩
theorem A0b{X:Option (Int×List ByteArray×List Bool)}{p:Int×List ByteArray}{e:Int}{f:List ByteArray→Int×List ByteArray}{G:Int×List ByteArray×List Bool→Option (Int×List ByteArray×List Bool)}(hX:Out X p)
  (hG:∀e a b,e≠0→G (e,a,b)=some (e,a,b)) (h:∀ks,Gl (fE (f ks).1 e) (G (0,ks,tr ks))):Gl (fE (Ps p f).1 e) (X.bind G):=by
 obtain ⟨ks,rfl,h0⟩:=hX
 rw [Option.bind_some]
 unfold Ps
 by_cases hp:p.1=0
 ·rw [if_neg (by simp [hp]),←h0 hp,hp];exact h ks
 ·rw [if_pos hp,hG _ _ _ hp,Rr hp];exact ⟨_,_,rfl⟩
theorem nzE{e:Int}(h:e≠0)(a:List ByteArray)(b:List Bool)(Y:Option (Int×List ByteArray×List Bool)):(bif e != 0 then some (e,a,b) else Y)=some (e,a,b):=by rw [Wl h];rfl
theorem A9t(p:Int×List ByteArray)(f g:List ByteArray→Int×List ByteArray):Ps (Ps p f) g=Ps p fun b=>Ps (f b) g:=by
 unfold Ps
 by_cases hp:p.1=0
 ·simp [hp]
 ·simp [hp]
theorem B7h{α :Type}{f: α→Int}{lq:List α→Nat→Int→Option (Nat×(Int×Int))}{bd: α→Option Int}
  (hn:∀i v,lq [] i v=some (1,(v,(i:Int))))
  (hc:∀x k i v,lq (x::k) i v=(bd x).bind fun o=>bif o != 0 then some (0,(o,(i:Int))) else lq k (i+1) v):
  ∀(k:List α) (i:Nat) (v:Int),(∀x∈k,bd x=some (f x))→∃j,lq k i v=some (if Ak6 f k=0 then (1,(v,j)) else (0,(Ak6 f k,j))):=by
 intro k
 induction k with
 |nil=>intro i v _;exact ⟨i,by rw [hn];rfl⟩
 |cons x k ih=>
  intro i v h
  obtain ⟨j,hj⟩:=ih (i+1) v fun y hy=>h y (by simp [hy])
  rw [hc,h x (by simp),Option.bind_some,Ak6]
  by_cases h0:f x=0
  ·exact ⟨j,by rw [h0,Vx];exact hj⟩
  ·exact ⟨i,by rw [Rr h0,Wl h0,cond_true,if_neg h0]⟩
def Cjf(most:Int)(n:Nat)(X:Option (Nat×(Int×Int))):Option Int:=bif decide ((n:Int) > most) then some 6 else X.bind fun o=>As0 o.1 [some o.2.1,some 0]
theorem Bl9{α :Type}{f: α→Int}{lq:List α→Nat→Int→Option (Nat×(Int×Int))}{bd: α→Option Int}
  (hn:∀i v,lq [] i v=some (1,(v,(i:Int))))
  (hc:∀x k i v,lq (x::k) i v=(bd x).bind fun o=>bif o != 0 then some (0,(o,(i:Int))) else lq k (i+1) v)
  (most:Nat) (l:List α) (v:Int) (X:Option (Nat×(Int×Int))) (hX:X=lq l 0 v) (hb:∀x∈l,bd x=some (f x)):Cjf most l.length X=some (if most < l.length then 6 else Ak6 f l):=by
 unfold Cjf
 by_cases hm:most < l.length
 ·rw [decide_eq_true (show (l.length:Int) > most by omega),if_pos hm];rfl
 ·rw [decide_eq_false (show¬(l.length:Int) > most by omega),if_neg hm,cond_false,hX]
  obtain ⟨j,hj⟩:=B7h hn hc l 0 v hb
  rw [hj,Option.bind_some]
  by_cases h0:Ak6 f l=0
  ·rw [if_pos h0,Kx,h0]
  ·rw [if_neg h0,Gm]
theorem Iu(L:Nat)(x lo hi:Int):Bh L x lo hi=some (Bm lo hi x):=by
 simp only [Al5,Bh,aN,aB,Dq,ge_iff_le,Bm]
theorem Amt(L:Nat)(t:Int):L1 L t=some (Oy t):=by
 simp only [Aod,L1,aN,aB,Dq,ge_iff_le,Oy,Bm]
theorem Aot(L:Nat)(t n:Int):Vu L t n=some (Afy t n):=by
 simp only [Arc,Vu,aN,aB,Avb,Iu,Option.bind_some,Ly,Afy]
 by_cases h1:t=1
 ·simp [h1]
 ·by_cases h2:t=2
  ·simp [h2]
  ·by_cases h3:t=3
   ·simp [h3]
   ·simp [h1,h2,h3,beq_false_of_ne h1,beq_false_of_ne h2,beq_false_of_ne h3]
theorem Aaf(L:Nat)(l:List ByteArray)(s:ByteArray)(hl:l.length≤maxLen)(hL:maxLen < L):Bz L l s=some (l.any fun x=>decide (x=s)):=by
 have e:(fun x:ByteArray=>decide (s=x))=fun x=>decide (x=s):=funext fun x=>decide_eq_decide.2 ⟨Eq.symm,Eq.symm⟩
 simp only [Th,Bz,aN,aB,Ht L l s hl (by omega),Option.bind_some,Anp,e]
end Go.Proofs.YtofcpkmnhmnfcaaGreatR.Ev
