/-  Chapter 11, plainly: what Check says of a model. -/
import Derived.Test.YtfencmicmnhglaaGreatPK
import Derived.Test.YtfencmicmnhglaaGreatQA
namespace Go.Proofs.YtfencmicmnhglaaGreat.Ev
open Go An
set_option maxRecDepth 100000
set_option linter.unusedVariables false
set_option linter.unusedSimpArgs false
set_option linter.unnecessarySimpa false
def fE(a b:Int):Int:=if a=0 then b else a
def unl(c:Bool)(e:Int):Int:=bif c then 0 else e
def Wv(bf:List ByteArray)(n:ByteArray):Int:=fE (Rw n) (unl (!bf.any fun x=>decide (x=n)) 4)
def N0(t:Int):Bool:=Br 1 3 t
def Aau(t n:Int):Bool:=if t=1 then inZ n else if t=2 then (n == 0 || n == 1) else if t=3 then Br 0 1000000000 n else false
def F6{α :Type}(nm: α→ByteArray)(f: α→Int):List ByteArray→List α→Int×List ByteArray
 |bf,[]=>(0,bf)
 |bf,x::k=>if fE (Wv bf (nm x)) (f x)≠0 then (fE (Wv bf (nm x)) (f x),bf) else F6 nm f (bf++ [nm x]) k
def Lg{α :Type}(most:Nat)(nm: α→ByteArray)(f: α→Int)(bf:List ByteArray)(l:List α):Int×List ByteArray:=if most < l.length then (6,bf) else F6 nm f bf l
def Air{α :Type}(f: α→Int):List α→Int
 | []=>0
 |x::k=>fE (f x) (Air f k)
def A5t(cy:Int):Option Int→List Cx→Int
 |_,[]=>0
 |p,c::k=>if (Br 0 (cy - 1) c.At && Br 0 1000 c.Units)=false then 2
  else if (match p with|some q=>decide (c.At≤q)|none=>false)=true then 12 else A5t cy (some c.At) k
def Awb(r:Af):Int:=if r.Shift.length=0 then unl (r.Cycle == 0) 1 else if 20 < r.Shift.length then 6 else if Br 1 1000000000 r.Cycle=false then 2 else A5t r.Cycle none r.Shift
def Bmy(s:Aa)(f:Gu):Int:=if f.Stream.size=0 then unl (An8 f.Up Ahm && An8 f.Down Ahm) 1 else if s.Streams.any (fun x=>decide (x=f.Stream))=false then 5 else fE (Auf f.Up) (Auf f.Down)
def Bih(s:Aa)(r:Af):Int:=fE (unl (Br 0 1000 r.Units) 2) (fE (Awb r) (Bmy s r.Fault))
def Awf(x:Aq):Int:=fE (unl (Br 1 1000 x.Room) 2) (unl (Br 1 3 x.Policy) 1)
def A5p(x:Au):Int:=unl (Br 1 1000 x.Length && Br 1 1000 x.Step) 2
def U3(v:Al):Int:=fE (unl (N0 v.Type_) 1) (unl (Aau v.Type_ v.N) 2)
def Ayd(r:Ak):Int:=if 6 < r.Params.length∨16 < r.Params.length+r.Locals.length then 6 else fE (F6 (fun f:Ap=>f.Name) (fun f=>unl (N0 f.Type_) 1) [] (r.Params++r.Locals)).1 (Amo r.Body)
def A0p(s:Aa)(d:Bm):Int:=match s.Routines.find? fun r=>decide (r.Name=d.Routine) with
 |none=>5
 |some r=>if d.Args.length≠r.Params.length then 8 else if ((r.Params.zip d.Args).all fun p=>Aau p.1.Type_ p.2)=false then 2
  else unl (Br 0 1000000000 d.At && Br 0 1000000000 d.Every && Br 0 1000000000 d.Until && (d.Every != 0 || d.Until == 0)) 2
def Aig(w:ByteArray):Int:=
 if w=⟨#[99,114,101,97,116,101,100]⟩∨w=⟨#[101,110,100,101,100]⟩∨w=⟨#[105,110,115,105,100,101]⟩ then 1
 else if w=⟨#[115,116,111,114,101,100]⟩∨w=⟨#[101,110,116,101,114,101,100]⟩∨w=⟨#[108,101,102,116]⟩ then 2
 else if w=⟨#[99,111,117,110,116,101,100]⟩ then 3 else 0
def A1l(t:Av):Int:=unl (Br (-1000) 1000 t.Coef && t.Coef != 0) 2
def Ud(s:Aa)(t:Av):Int:=
 if Aig t.What=0 then 1
 else if (if Aig t.What=1 then s.Routines.any (fun r=>decide (r.Name=t.Name)) else if Aig t.What=2 then s.Stores.any (fun x=>decide (x.Name=t.Name)) else s.Counts.any (fun x=>decide (x=t.Name)))=false then 5
 else A1l t
def Ac6(s:Aa)(t:Av):Int:=
 if Aig t.What=0 then 1
 else if Hi s t.Name≠(if Aig t.What=1 then W8 else if Aig t.What=2 then I2 else Tk) then 5
 else A1l t
def A2m(tm:Av→Int)(l:Ba):Int:=fE (unl (decide (0 < l.Terms.length)) 7) (fE (unl (decide (l.Terms.length≤8)) 6) (fE (Air tm l.Terms) (unl (inZ l.Total) 2)))
def Od(p:Int×List ByteArray)(f:List ByteArray→Int×List ByteArray):Int×List ByteArray:=if p.1≠0 then p else f p.2
def txE(bf:List ByteArray)(l:List ByteArray):Int×List ByteArray:=Lg 32 (fun x:ByteArray=>x) (fun _=>0) bf l
def Apm(s:Aa):Int×List ByteArray:=
 Od (Od (Od (Od (Od (Od (Od (Od (Od (Lg 32 (fun x:Al=>x.Name) U3 [] s.Vars)
  fun b=>Lg 32 (fun x:Af=>x.Name) (Bih s) b s.Resources) fun b=>Lg 32 (fun x:Aq=>x.Name) Awf b s.Stores)
  fun b=>Lg 32 (fun x:Au=>x.Name) A5p b s.Belts) fun b=>txE b s.Queues) fun b=>txE b s.Streams) fun b=>txE b s.Tallies)
  fun b=>txE b s.Levels) fun b=>txE b s.Counts) fun b=>Lg 16 (fun x:Ak=>x.Name) Ayd b s.Routines
def Ayh(s:Aa):Int:=if 32 < s.Starts.length then 6 else Air (A0p s) s.Starts
def Ahi(tm:Aa→Av→Int)(s:Aa):Int:=fE (Apm s).1 (fE (Ayh s) (Lg 32 (fun l:Ba=>l.Name) (A2m (tm s)) [] s.Laws).1)
def Bhf(m:Ad)(seen:List Bl)(l:Bl):Int:=
 if (m.Sites.any (fun d=>decide (d.Name=l.From)) && m.Sites.any (fun d=>decide (d.Name=l.To)))=false then 5
 else if l.From=l.To then 1 else if Br 1 1000000000 l.Delay=false then 2
 else unl (!seen.any fun x=>decide (x.From=l.From) && decide (x.To=l.To)) 4
def Ah3(m:Ad):List Bl→List Bl→Int
 |_,[]=>0
 |seen,l::k=>fE (Bhf m seen l) (Ah3 m (seen++ [l]) k)
def A6k(m:Ad):Int:=if 32 < m.Links.length then 6 else Ah3 m [] m.Links
def Acj(tm:Aa→Av→Int)(m:Ad):Int:=
 fE (Rw m.Name) (fE (Lg 32 (fun x:Al=>x.Name) U3 [] m.Params).1 (fE (unl (decide (0 < m.Sites.length)) 7)
  (fE (Lg 16 (fun d:Aa=>d.Name) (Ahi tm) [] m.Sites).1 (A6k m))))
theorem Bgb{a b:Int} :fE a b=0↔a=0∧b=0:=by
 unfold fE
 by_cases h:a=0
 ·rw [if_pos h];simp [h]
 ·rw [if_neg h];simp [h]
theorem Rp(b:Int):fE 0 b=b:=rfl
theorem Mf{a b:Int}(h:a≠0):fE a b=a:=if_neg h
theorem By9{c:Bool}{e:Int}(he:e≠0):unl c e=0↔c=true:=by cases c<;>simp [unl,he]
theorem Cmw{bf:List ByteArray}{n:ByteArray}(h:Wv bf n=0):n∉bf:=by
 have h2:=(Bgb.1 h).2
 rw [By9 (by decide)] at h2
 intro hm
 have:(bf.any fun x=>decide (x=n))=true:=List.any_eq_true.2 ⟨n,hm,by simp⟩
 rw [this] at h2;cases h2
def Exd(b:List ByteArray)(x:Int×List ByteArray)(l:List ByteArray):Prop:=x.1=0→x.2=b++l∧(b.Nodup→x.2.Nodup)
theorem A57{α :Type}(nm: α→ByteArray)(f: α→Int):∀(l:List α) (b:List ByteArray),Exd b (F6 nm f b l) (l.map nm)
 | [],b=>fun _=>⟨by simp [F6],fun h=>h⟩
 |x::k,b=>by
  intro h
  rw [F6] at h ⊢
  by_cases hz:fE (Wv b (nm x)) (f x)=0
  ·rw [if_neg (by simp [hz])] at h ⊢
   obtain ⟨h1,h2⟩:=A57 nm f k (b++ [nm x]) h
   have hn:=Cmw (Bgb.1 hz).1
   refine ⟨by rw [h1];simp,fun hb=>h2 ?_⟩
   rw [List.nodup_append]
   refine ⟨hb,by simp,?_⟩
   intro a ha c hc hac
   rw [List.mem_singleton] at hc
   subst hc;subst hac
   exact hn ha
  ·rw [if_pos (by simpa using hz)] at h
   exact absurd h hz
theorem Aj1{α :Type}(most:Nat)(nm: α→ByteArray)(f: α→Int)(b:List ByteArray)(l:List α):Exd b (Lg most nm f b l) (l.map nm):=by
 intro h
 unfold Lg at h ⊢
 by_cases hm:most < l.length
 ·rw [if_pos hm] at h;exact absurd h (by show¬((6:Int)=0);decide)
 ·rw [if_neg hm] at h ⊢;exact A57 nm f l b h
theorem Ac7{b l1 l2:List ByteArray}{p:Int×List ByteArray}{f:List ByteArray→Int×List ByteArray}(h1:Exd b p l1)(h2:∀c,Exd c (f c) l2):Exd b (Od p f) (l1++l2):=by
 intro h
 unfold Od at h ⊢
 by_cases hp:p.1=0
 ·rw [if_neg (by simp [hp])] at h ⊢
  obtain ⟨e1,n1⟩:=h1 hp
  obtain ⟨e2,n2⟩:=h2 p.2 h
  exact ⟨by rw [e2,e1,List.append_assoc],fun hb=>n2 (n1 hb)⟩
 ·rw [if_pos (by simpa using hp)] at h
  exact absurd h hp
theorem A8h(b l:List ByteArray):Exd b (txE b l) l:=by
 have:=Aj1 32 (fun x:ByteArray=>x) (fun _=>0) b l
 rw [List.map_id'] at this
 exact this
theorem Bs8(s:Aa):Exd [] (Apm s) (s.Vars.map (·.Name)++s.Resources.map (·.Name)++s.Stores.map (·.Name)++s.Belts.map (·.Name)++s.Queues++s.Streams++s.Tallies++s.Levels++s.Counts++s.Routines.map (·.Name)):=
 Ac7 (Ac7 (Ac7 (Ac7 (Ac7 (Ac7 (Ac7 (Ac7 (Ac7 (Aj1 _ _ _ _ _) fun _=>Aj1 _ _ _ _ _) fun _=>Aj1 _ _ _ _ _) fun _=>Aj1 _ _ _ _ _)
  fun _=>A8h _ _) fun _=>A8h _ _) fun _=>A8h _ _) fun _=>A8h _ _) fun _=>A8h _ _) fun _=>Aj1 _ _ _ _ _
def Uni(s:Aa):Prop:=(s.Vars.map (·.Name)++s.Resources.map (·.Name)++s.Stores.map (·.Name)++s.Belts.map (·.Name)++s.Queues++s.Streams++s.Tallies++s.Levels++s.Counts++s.Routines.map (·.Name)).Nodup
theorem Bs9{s:Aa}(h:(Apm s).1=0):Uni s:=by
 obtain ⟨h1,h2⟩:=Bs8 s h
 have:=h2 List.nodup_nil
 rw [h1,List.nil_append] at this
 exact this
theorem Cc3{a b:List ByteArray}{n:ByteArray}(h:(a++b).Nodup)(hn:n∈b):n∉a:=fun ha=>(List.nodup_append.1 h).2.2 n ha n hn rfl
theorem Bhn{a b:List ByteArray}(h:(a++b).Nodup):a.Nodup:=(List.nodup_append.1 h).1
theorem Bjh{α :Type}(nm: α→ByteArray)(l:List α)(n:ByteArray):(l.any fun x=>decide (nm x=n))=true↔n∈l.map nm:=by
 rw [List.any_eq_true,List.mem_map]
 exact ⟨fun ⟨x,h1,h2⟩=>⟨x,h1,of_decide_eq_true h2⟩,fun ⟨x,h1,h2⟩=>⟨x,h1,decide_eq_true h2⟩⟩
theorem Bu4(l:List ByteArray)(n:ByteArray):(l.any fun x=>decide (n=x))=true↔n∈l:=by
 rw [List.any_eq_true]
 exact ⟨fun ⟨x,h1,h2⟩=>by rw [of_decide_eq_true h2];exact h1,fun h=>⟨n,h,by simp⟩⟩
theorem Afy{α :Type}(nm: α→ByteArray)(l:List α)(n:ByteArray)(h:n∉l.map nm):(l.any fun x=>decide (nm x=n))=false:=Bool.eq_false_iff.2 fun hh=>h ((Bjh nm l n).1 hh)
theorem Ais(l:List ByteArray)(n:ByteArray)(h:n∉l):(l.any fun x=>decide (n=x))=false:=Bool.eq_false_iff.2 fun hh=>h ((Bu4 l n).1 hh)
theorem neK{a b:ByteArray}(h:decide (a=b)=false)(i:Int):(a,i).1≠b:=of_decide_eq_false h
theorem Bdm{s:Aa}(hu:Uni s)(n:ByteArray):decide (Hi s n=W8)=s.Routines.any fun x=>decide (x.Name=n):=by
 cases h10:s.Routines.any fun x=>decide (x.Name=n) with
 |true=>
  have hm:=Cc3 hu ((Bjh _ _ _).1 h10)
  simp only [List.mem_append,not_or] at hm
  obtain ⟨⟨⟨⟨⟨⟨⟨⟨a1,a2⟩,a3⟩,a4⟩,a5⟩,a6⟩,a7⟩,a8⟩,a9⟩:=hm
  simp only [Hi,Aml,Afy _ _ _ a1,Afy _ _ _ a2,Afy _ _ _ a3,Afy _ _ _ a4,Ais _ _ a5,Ais _ _ a6,Ais _ _ a7,Ais _ _ a8,Ais _ _ a9,h10,cond_false,cond_true,decide_true]
 |false=>
  apply decide_eq_false
  unfold Hi Aml
  rw [h10]
  simp only [cond_false]
  repeat' (refine (?_:Prod.fst (bif _ then _ else _)≠_);rw [Bool.cond_eq_ite];split;(· exact neK rfl _))
  exact neK rfl _
theorem Bj7{s:Aa}(hu:Uni s)(n:ByteArray):decide (Hi s n=I2)=s.Stores.any fun x=>decide (x.Name=n):=by
 cases h10:s.Stores.any fun x=>decide (x.Name=n) with
 |true=>
  have hm:=Cc3 (Bhn (Bhn (Bhn (Bhn (Bhn (Bhn (Bhn hu))))))) ((Bjh _ _ _).1 h10)
  simp only [List.mem_append,not_or] at hm
  obtain ⟨a1,a2⟩:=hm
  simp only [Hi,Aml,Afy _ _ _ a1,Afy _ _ _ a2,h10,cond_false,cond_true,decide_true]
 |false=>
  apply decide_eq_false
  unfold Hi Aml
  rw [h10]
  simp only [cond_false]
  repeat' (refine (?_:Prod.fst (bif _ then _ else _)≠_);rw [Bool.cond_eq_ite];split;(· exact neK rfl _))
  exact neK rfl _
theorem Bj6{s:Aa}(hu:Uni s)(n:ByteArray):decide (Hi s n=Tk)=s.Counts.any fun x=>decide (x=n):=by
 have e:(s.Counts.any fun x=>decide (x=n))=s.Counts.any fun x=>decide (n=x):=by
  congr 1;funext x;exact decide_eq_decide.2 ⟨Eq.symm,Eq.symm⟩
 rw [e]
 cases h10:s.Counts.any fun x=>decide (n=x) with
 |true=>
  have hm:=Cc3 (Bhn hu) ((Bu4 _ _).1 h10)
  simp only [List.mem_append,not_or] at hm
  obtain ⟨⟨⟨⟨⟨⟨⟨a1,a2⟩,a3⟩,a4⟩,a5⟩,a6⟩,a7⟩,a8⟩:=hm
  simp only [Hi,Aml,Afy _ _ _ a1,Afy _ _ _ a2,Afy _ _ _ a3,Afy _ _ _ a4,Ais _ _ a5,Ais _ _ a6,Ais _ _ a7,Ais _ _ a8,h10,cond_false,cond_true,decide_true]
 |false=>
  apply decide_eq_false
  unfold Hi Aml
  rw [h10]
  simp only [cond_false]
  repeat' (refine (?_:Prod.fst (bif _ then _ else _)≠_);rw [Bool.cond_eq_ite];split;(· exact neK rfl _))
  exact neK rfl _
theorem B64{s:Aa}(hu:Uni s)(t:Av):Ud s t=Ac6 s t:=by
 unfold Ud Ac6
 have h1:=Bdm hu t.Name
 have h2:=Bj7 hu t.Name
 have h3:=Bj6 hu t.Name
 by_cases hw:Aig t.What=0
 ·rw [if_pos hw,if_pos hw]
 ·rw [if_neg hw,if_neg hw]
  by_cases w1:Aig t.What=1
  ·simp only [w1,if_true]
   rw [←h1]
   by_cases hk:Hi s t.Name=W8<;>simp [hk]
  ·by_cases w2:Aig t.What=2
   ·simp only [w1,w2,if_true,if_false]
    rw [←h2]
    by_cases hk:Hi s t.Name=I2<;>simp [hk]
   ·simp only [w1,w2,if_false]
    rw [←h3]
    by_cases hk:Hi s t.Name=Tk<;>simp [hk]
theorem B6x(s:Aa):Ahi Ud s=Ahi Ac6 s:=by
 unfold Ahi
 by_cases h:(Apm s).1=0
 ·have:Ud s=Ac6 s:=funext (B64 (Bs9 h))
  rw [this]
 ·rw [Mf h,Mf h]
theorem Bxv(m:Ad):Acj Ud m=Acj Ac6 m:=by
 have:Ahi Ud=Ahi Ac6:=funext B6x
 unfold Acj
 rw [this]
def tr{α :Type}(ks:List α):List Bool:=List.replicate ks.length true
theorem Bsd{α :Type}(ks:List α)(n: α):tr ks++ [true]=tr (ks++ [n]):=by
 unfold tr;rw [List.length_append,List.length_singleton,List.replicate_succ']
def nx(ks:List ByteArray)(n:ByteArray):List ByteArray:=if Wv ks n=0 then ks++ [n] else ks
def Ca9(X:Option Int)(n:ByteArray)(ks:List ByteArray)(vs:List Bool):Option (Int×List ByteArray×List Bool):=
 X.bind fun r=>bif r != 0 then some (r,ks,vs) else fko (ks.findIdx? fun b=>n == b)
  (fun i=>bif vs.getD i default then some (4,ks,vs) else fko (ks.findIdx? fun b=>n == b) (fun j=>some (0,ks,vs.set j true)) (some (0,ks++ [n],vs++ [true])))
  (fko (ks.findIdx? fun b=>n == b) (fun j=>some (0,ks,vs.set j true)) (some (0,ks++ [n],vs++ [true])))
theorem By6{α :Type}{ks:List α}{i:Nat}(h:i < ks.length):(tr ks).getD i default=true:=by
 unfold tr
 rw [List.getD_eq_getElem?_getD,List.getElem?_replicate,if_pos h];rfl
theorem Axa{α :Type}{ks:List α}{p: α→Bool}(h:ks.findIdx? p=none):ks.any p=false:=by
 rw [List.findIdx?_eq_none_iff] at h
 rw [List.any_eq_false]
 intro x hx
 simp [h x hx]
theorem Atk{α :Type}{ks:List α}{p: α→Bool}{i:Nat}(h:ks.findIdx? p=some i):ks.any p=true:=by
 obtain ⟨h1,h2,_⟩:=List.findIdx?_eq_some_iff_getElem.1 h
 exact List.any_eq_true.2 ⟨_,List.getElem_mem h1,h2⟩
theorem Bcs(n b:ByteArray):(n == b)=decide (b=n):=by
 show (n.data == b.data)=_
 rw [Bool.eq_iff_iff,beq_iff_eq,decide_eq_true_iff]
 constructor
 ·intro h;cases n;cases b;cases h;rfl
 ·rintro rfl;rfl
theorem B2b{X:Option Int}{n:ByteArray}(ks:List ByteArray)(h:X=some (Rw n)):Ca9 X n ks (tr ks)=some (Wv ks n,nx ks n,tr (nx ks n)):=by
 subst h
 unfold Ca9 nx Wv
 rw [Option.bind_some]
 by_cases h0:Rw n=0
 ·have e:(fun b=>n == b)=fun x:ByteArray=>decide (x=n):=funext fun b=>Bcs n b
  rw [h0,e]
  cases hf:ks.findIdx? fun x=>decide (x=n) with
  |none=>
   rw [Axa hf]
   simp only [fko,fE,unl,Bool.not_false,cond_true,if_true,Bsd ks n]
   rfl
  |some i=>
   rw [Atk hf]
   obtain ⟨h1,_⟩:=List.findIdx?_eq_some_iff_getElem.1 hf
   simp only [fko,By6 h1]
   rfl
 ·rw [Uy h0,cond_true,Mf h0,if_neg h0]
def Out(X:Option (Int×List ByteArray×List Bool))(p:Int×List ByteArray):Prop:=∃ks,X=some (p.1,ks,tr ks)∧(p.1=0→ks=p.2)
theorem Bvg{α :Type}{nm: α→ByteArray}{f: α→Int}{lq:List α→Nat→Int→List ByteArray→List Bool→Option (Nat×(Int×Int×List ByteArray×List Bool))}{bd: α→List ByteArray→List Bool→Option (Int×List ByteArray×List Bool)}
  (hn:∀i v ks vs,lq [] i v ks vs=some (1,(v,(i:Int),ks,vs)))
  (hc:∀x k i v ks vs,lq (x::k) i v ks vs=(bd x ks vs).bind fun o=>bif o.1 != 0 then some (0,(o.1,(i:Int),o.2.1,o.2.2)) else lq k (i+1) v o.2.1 o.2.2):
  ∀(k:List α) (i:Nat) (v:Int) (ks:List ByteArray),(∀x∈k,∀ks,∃ks',bd x ks (tr ks)=some (fE (Wv ks (nm x)) (f x),ks',tr ks')∧(fE (Wv ks (nm x)) (f x)=0→ks'=ks++ [nm x]))→
  ∃j ks',lq k i v ks (tr ks)=some (if (F6 nm f ks k).1=0 then (1,(v,(j,ks',tr ks'))) else (0,((F6 nm f ks k).1,(j,ks',tr ks'))))∧((F6 nm f ks k).1=0→ks'=(F6 nm f ks k).2):=by
 intro k
 induction k with
 |nil=>intro i v ks _;exact ⟨i,ks,by rw [hn,F6];rfl,fun _=>rfl⟩
 |cons x k ih=>
  intro i v ks h
  obtain ⟨ks1,hb,hz⟩:=h x (by simp) ks
  rw [hc,hb,Option.bind_some]
  by_cases h0:fE (Wv ks (nm x)) (f x)=0
  ·have:=hz h0;subst this
   have e:F6 nm f ks (x::k)=F6 nm f (ks++ [nm x]) k:=by rw [F6,if_neg (by simp [h0])]
   obtain ⟨j,ks',hj,he⟩:=ih (i+1) v (ks++ [nm x]) fun y hy=>h y (by simp [hy])
   rw [e]
   exact ⟨j,ks',by simp only [h0];exact hj,he⟩
  ·have e:F6 nm f ks (x::k)=(fE (Wv ks (nm x)) (f x),ks):=by rw [F6,if_pos h0]
   rw [e]
   exact ⟨i,ks1,by simp only [Uy h0,cond_true,if_neg h0],fun hh=>absurd hh h0⟩
def B7e(most:Int)(n:Nat)(ks:List ByteArray)(vs:List Bool)(X:Option (Nat×(Int×Int×List ByteArray×List Bool))):Option (Int×List ByteArray×List Bool):=
 bif decide ((n:Int) > most) then some (6,ks,vs) else X.bind fun o=>As6 o.1 [some (o.2.1,o.2.2.2.1,o.2.2.2.2),some (0,o.2.2.2.1,o.2.2.2.2)]
theorem Abm{α :Type}{nm: α→ByteArray}{f: α→Int}{lq:List α→Nat→Int→List ByteArray→List Bool→Option (Nat×(Int×Int×List ByteArray×List Bool))}{bd: α→List ByteArray→List Bool→Option (Int×List ByteArray×List Bool)}
  (hn:∀i v ks vs,lq [] i v ks vs=some (1,(v,(i:Int),ks,vs)))
  (hc:∀x k i v ks vs,lq (x::k) i v ks vs=(bd x ks vs).bind fun o=>bif o.1 != 0 then some (0,(o.1,(i:Int),o.2.1,o.2.2)) else lq k (i+1) v o.2.1 o.2.2)
  (most:Nat) (l:List α) (v:Int) (ks:List ByteArray) (X:Option (Nat×(Int×Int×List ByteArray×List Bool))) (hX:X=lq l 0 v ks (tr ks))
  (hb:∀x∈l,∀ks,∃ks',bd x ks (tr ks)=some (fE (Wv ks (nm x)) (f x),ks',tr ks')∧(fE (Wv ks (nm x)) (f x)=0→ks'=ks++ [nm x])):
  Out (B7e most l.length ks (tr ks) X) (Lg most nm f ks l):=by
 unfold Out B7e Lg
 by_cases hm:most < l.length
 ·rw [decide_eq_true (show (l.length:Int) > most by omega),if_pos hm]
  exact ⟨ks,rfl,fun _=>rfl⟩
 ·rw [decide_eq_false (show¬(l.length:Int) > most by omega),if_neg hm,cond_false,hX]
  obtain ⟨j,ks',hj,he⟩:=Bvg hn hc l 0 v ks hb
  refine ⟨ks',?_,he⟩
  rw [hj,Option.bind_some]
  by_cases h0:(F6 nm f ks l).1=0
  ·rw [if_pos h0,Qo,h0]
  ·rw [if_neg h0,Hb]
def Gl(e:Int)(X:Option (Int×List ByteArray×List Bool)):Prop:=∃a b,X=some (e,a,b)
theorem Coq{X:Option (Int×List ByteArray×List Bool)}{p:Int×List ByteArray}{e:Int}{G:Int×List ByteArray×List Bool→Option (Int×List ByteArray×List Bool)}(hX:Out X p)
  (hG:∀e a b,e≠0→G (e,a,b)=some (e,a,b)) (h:∀ks,Gl e (G (0,ks,tr ks))):Gl (fE p.1 e) (X.bind G):=by
 obtain ⟨ks,rfl,h0⟩:=hX
 rw [Option.bind_some]
 by_cases hp:p.1=0
 ·rw [hp,Rp];exact h ks
 ·rw [hG _ _ _ hp,Mf hp];exact ⟨_,_,rfl⟩
theorem Ayi{X:Option (Int×List ByteArray×List Bool)}{p:Int×List ByteArray}{e:Int}{f:List ByteArray→Int×List ByteArray}{G:Int×List ByteArray×List Bool→Option (Int×List ByteArray×List Bool)}(hX:Out X p)
  (hG:∀e a b,e≠0→G (e,a,b)=some (e,a,b)) (h:∀ks,Gl (fE (f ks).1 e) (G (0,ks,tr ks))):Gl (fE (Od p f).1 e) (X.bind G):=by
 obtain ⟨ks,rfl,h0⟩:=hX
 rw [Option.bind_some]
 unfold Od
 by_cases hp:p.1=0
 ·rw [if_neg (by simp [hp]),←h0 hp,hp];exact h ks
 ·rw [if_pos hp,hG _ _ _ hp,Mf hp];exact ⟨_,_,rfl⟩
theorem nzE{e:Int}(h:e≠0)(a:List ByteArray)(b:List Bool)(Y:Option (Int×List ByteArray×List Bool)):(bif e != 0 then some (e,a,b) else Y)=some (e,a,b):=by rw [Uy h];rfl
theorem A8g(p:Int×List ByteArray)(f g:List ByteArray→Int×List ByteArray):Od (Od p f) g=Od p fun b=>Od (f b) g:=by
 unfold Od
 by_cases hp:p.1=0
 ·simp [hp]
 ·simp [hp]
theorem B7b{α :Type}{f: α→Int}{lq:List α→Nat→Int→Option (Nat×(Int×Int))}{bd: α→Option Int}
  (hn:∀i v,lq [] i v=some (1,(v,(i:Int))))
  (hc:∀x k i v,lq (x::k) i v=(bd x).bind fun o=>bif o != 0 then some (0,(o,(i:Int))) else lq k (i+1) v):
  ∀(k:List α) (i:Nat) (v:Int),(∀x∈k,bd x=some (f x))→∃j,lq k i v=some (if Air f k=0 then (1,(v,j)) else (0,(Air f k,j))):=by
 intro k
 induction k with
 |nil=>intro i v _;exact ⟨i,by rw [hn];rfl⟩
 |cons x k ih=>
  intro i v h
  obtain ⟨j,hj⟩:=ih (i+1) v fun y hy=>h y (by simp [hy])
  rw [hc,h x (by simp),Option.bind_some,Air]
  by_cases h0:f x=0
  ·exact ⟨j,by rw [h0,Rp];exact hj⟩
  ·exact ⟨i,by rw [Mf h0,Uy h0,cond_true,if_neg h0]⟩
def Ci3(most:Int)(n:Nat)(X:Option (Nat×(Int×Int))):Option Int:=bif decide ((n:Int) > most) then some 6 else X.bind fun o=>As6 o.1 [some o.2.1,some 0]
theorem Bl7{α :Type}{f: α→Int}{lq:List α→Nat→Int→Option (Nat×(Int×Int))}{bd: α→Option Int}
  (hn:∀i v,lq [] i v=some (1,(v,(i:Int))))
  (hc:∀x k i v,lq (x::k) i v=(bd x).bind fun o=>bif o != 0 then some (0,(o,(i:Int))) else lq k (i+1) v)
  (most:Nat) (l:List α) (v:Int) (X:Option (Nat×(Int×Int))) (hX:X=lq l 0 v) (hb:∀x∈l,bd x=some (f x)):Ci3 most l.length X=some (if most < l.length then 6 else Air f l):=by
 unfold Ci3
 by_cases hm:most < l.length
 ·rw [decide_eq_true (show (l.length:Int) > most by omega),if_pos hm];rfl
 ·rw [decide_eq_false (show¬(l.length:Int) > most by omega),if_neg hm,cond_false,hX]
  obtain ⟨j,hj⟩:=B7b hn hc l 0 v hb
  rw [hj,Option.bind_some]
  by_cases h0:Air f l=0
  ·rw [if_pos h0,Qo,h0]
  ·rw [if_neg h0,Hb]
theorem Il(L:Nat)(x lo hi:Int):Bn L x lo hi=some (Br lo hi x):=by
 simp only [Ajq,Bn,aN,aB,D3,ge_iff_le,Br]
theorem Akd(L:Nat)(t:Int):Li L t=some (N0 t):=by
 simp only [Al4,Li,aN,aB,D3,ge_iff_le,N0,Br]
theorem Amk(L:Nat)(t n:Int):Un L t n=some (Aau t n):=by
 simp only [Apb,Un,aN,aB,Atn,Il,Option.bind_some,Kn,Aau]
 by_cases h1:t=1
 ·simp [h1]
 ·by_cases h2:t=2
  ·simp [h2]
  ·by_cases h3:t=3
   ·simp [h3]
   ·simp [h1,h2,h3,beq_false_of_ne h1,beq_false_of_ne h2,beq_false_of_ne h3]
theorem Z4(L:Nat)(l:List ByteArray)(s:ByteArray)(hl:l.length≤maxLen)(hL:maxLen < L):B4 L l s=some (l.any fun x=>decide (x=s)):=by
 have e:(fun x:ByteArray=>decide (s=x))=fun x=>decide (x=s):=funext fun x=>decide_eq_decide.2 ⟨Eq.symm,Eq.symm⟩
 simp only [Sf,B4,aN,aB,Hw L l s hl (by omega),Option.bind_some,Alf,e]
end Go.Proofs.YtfencmicmnhglaaGreat.Ev
