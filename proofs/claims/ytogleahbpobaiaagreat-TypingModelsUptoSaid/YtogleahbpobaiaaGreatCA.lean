/-  Chapter 11, plainly: what Check says of a model. -/
import Derived.Test.YtogleahbpobaiaaGreatPK
import Derived.Test.YtogleahbpobaiaaGreatQA
namespace Go.Proofs.YtogleahbpobaiaaGreat.Ev
open Go An
set_option maxRecDepth 100000
set_option linter.unusedVariables false
set_option linter.unusedSimpArgs false
set_option linter.unnecessarySimpa false
def fE(a b:Int):Int:=if a=0 then b else a
def n5(c:Bool)(e:Int):Int:=bif c then 0 else e
def Vb(bf:List ByteArray)(n:ByteArray):Int:=fE (Qg n) (n5 (!bf.any fun x=>decide (x=n)) 4)
def Wg(t:Int):Bool:=Bp 1 3 t
def Ajv(t n:Int):Bool:=if t=1 then inZ n else if t=2 then (n == 0 || n == 1) else if t=3 then Bp 0 1000000000 n else false
def Fs{α :Type}(nm: α→ByteArray)(f: α→Int):List ByteArray→List α→Int×List ByteArray
 |bf,[]=>(0,bf)
 |bf,x::k=>if fE (Vb bf (nm x)) (f x)≠0 then (fE (Vb bf (nm x)) (f x),bf) else Fs nm f (bf++ [nm x]) k
def La{α :Type}(most:Nat)(nm: α→ByteArray)(f: α→Int)(bf:List ByteArray)(l:List α):Int×List ByteArray:=if most < l.length then (6,bf) else Fs nm f bf l
def Ahc{α :Type}(f: α→Int):List α→Int
 | []=>0
 |x::k=>fE (f x) (Ahc f k)
def A2x(cy:Int):Option Int→List Cu→Int
 |_,[]=>0
 |p,c::k=>if (Bp 0 (cy - 1) c.At && Bp 0 1000 c.Units)=false then 2
  else if (match p with|some q=>decide (c.At≤q)|none=>false)=true then 12 else A2x cy (some c.At) k
def Aua(r:Af):Int:=if r.Shift.length=0 then n5 (r.Cycle == 0) 1 else if 20 < r.Shift.length then 6 else if Bp 1 1000000000 r.Cycle=false then 2 else A2x r.Cycle none r.Shift
def Bi6(s:Aa)(f:F4):Int:=if f.Stream.size=0 then n5 (Ami f.Up Af4 && Ami f.Down Af4) 1 else if s.Streams.any (fun x=>decide (x=f.Stream))=false then 5 else fE (Asn f.Up) (Asn f.Down)
def Be8(s:Aa)(r:Af):Int:=fE (n5 (Bp 0 1000 r.Units) 2) (fE (Aua r) (Bi6 s r.Fault))
def Aue(x:Ap):Int:=fE (n5 (Bp 1 1000 x.Room) 2) (n5 (Bp 1 3 x.Policy) 1)
def A2t(x:Ar):Int:=n5 (Bp 1 1000 x.Length && Bp 1 1000 x.Step) 2
def Yp(v:Al):Int:=fE (n5 (Wg v.Type_) 1) (n5 (Ajv v.Type_ v.N) 2)
def Awd(r:Ai):Int:=if 6 < r.Params.length∨16 < r.Params.length+r.Locals.length then 6 else fE (Fs (fun f:Ao=>f.Name) (fun f=>n5 (Wg f.Type_) 1) [] (r.Params++r.Locals)).1 (Ak1 r.Body)
def Ayj(s:Aa)(d:Bh):Int:=match s.Routines.find? fun r=>decide (r.Name=d.Routine) with
 |none=>5
 |some r=>if d.Args.length≠r.Params.length then 8 else if ((r.Params.zip d.Args).all fun p=>Ajv p.1.Type_ p.2)=false then 2
  else n5 (Bp 0 1000000000 d.At && Bp 0 1000000000 d.Every && Bp 0 1000000000 d.Until && (d.Every != 0 || d.Until == 0)) 2
def Ag3(w:ByteArray):Int:=
 if w=⟨#[99,114,101,97,116,101,100]⟩∨w=⟨#[101,110,100,101,100]⟩∨w=⟨#[105,110,115,105,100,101]⟩ then 1
 else if w=⟨#[115,116,111,114,101,100]⟩∨w=⟨#[101,110,116,101,114,101,100]⟩∨w=⟨#[108,101,102,116]⟩ then 2
 else if w=⟨#[99,111,117,110,116,101,100]⟩ then 3 else 0
def Aza(t:Au):Int:=n5 (Bp (-1000) 1000 t.Coef && t.Coef != 0) 2
def S4(s:Aa)(t:Au):Int:=
 if Ag3 t.What=0 then 1
 else if (if Ag3 t.What=1 then s.Routines.any (fun r=>decide (r.Name=t.Name)) else if Ag3 t.What=2 then s.Stores.any (fun x=>decide (x.Name=t.Name)) else s.Counts.any (fun x=>decide (x=t.Name)))=false then 5
 else Aza t
def Abd(s:Aa)(t:Au):Int:=
 if Ag3 t.What=0 then 1
 else if Gf s t.Name≠(if Ag3 t.What=1 then Vl else if Ag3 t.What=2 then Im else R6) then 5
 else Aza t
def A0c(tm:Au→Int)(l:Ax):Int:=fE (n5 (decide (0 < l.Terms.length)) 7) (fE (n5 (decide (l.Terms.length≤8)) 6) (fE (Ahc tm l.Terms) (n5 (inZ l.Total) 2)))
def Ns(p:Int×List ByteArray)(f:List ByteArray→Int×List ByteArray):Int×List ByteArray:=if p.1≠0 then p else f p.2
def txE(bf:List ByteArray)(l:List ByteArray):Int×List ByteArray:=La 32 (fun x:ByteArray=>x) (fun _=>0) bf l
def Anr(s:Aa):Int×List ByteArray:=
 Ns (Ns (Ns (Ns (Ns (Ns (Ns (Ns (Ns (La 32 (fun x:Al=>x.Name) Yp [] s.Vars)
  fun b=>La 32 (fun x:Af=>x.Name) (Be8 s) b s.Resources) fun b=>La 32 (fun x:Ap=>x.Name) Aue b s.Stores)
  fun b=>La 32 (fun x:Ar=>x.Name) A2t b s.Belts) fun b=>txE b s.Queues) fun b=>txE b s.Streams) fun b=>txE b s.Tallies)
  fun b=>txE b s.Levels) fun b=>txE b s.Counts) fun b=>La 16 (fun x:Ai=>x.Name) Awd b s.Routines
def Awh(s:Aa):Int:=if 32 < s.Starts.length then 6 else Ahc (Ayj s) s.Starts
def Af0(tm:Aa→Au→Int)(s:Aa):Int:=fE (Anr s).1 (fE (Awh s) (La 32 (fun l:Ax=>l.Name) (A0c (tm s)) [] s.Laws).1)
def Bd9(m:Ad)(seen:List Bg)(l:Bg):Int:=
 if (m.Sites.any (fun d=>decide (d.Name=l.From)) && m.Sites.any (fun d=>decide (d.Name=l.To)))=false then 5
 else if l.From=l.To then 1 else if Bp 1 1000000000 l.Delay=false then 2
 else n5 (!seen.any fun x=>decide (x.From=l.From) && decide (x.To=l.To)) 4
def Agl(m:Ad):List Bg→List Bg→Int
 |_,[]=>0
 |seen,l::k=>fE (Bd9 m seen l) (Agl m (seen++ [l]) k)
def A3n(m:Ad):Int:=if 32 < m.Links.length then 6 else Agl m [] m.Links
def Aiu(tm:Aa→Au→Int)(m:Ad):Int:=
 fE (Qg m.Name) (fE (La 32 (fun x:Al=>x.Name) Yp [] m.Params).1 (fE (n5 (decide (0 < m.Sites.length)) 7)
  (fE (La 16 (fun d:Aa=>d.Name) (Af0 tm) [] m.Sites).1 (A3n m))))
end Go.Proofs.YtogleahbpobaiaaGreat.Ev
namespace Go.Proofs.YtogleahbpobaiaaGreat.Ev
open Go An
set_option maxRecDepth 100000
set_option linter.unusedVariables false
set_option linter.unusedSimpArgs false
set_option linter.unnecessarySimpa false
theorem B4l{a b:Int} :fE a b=0↔a=0∧b=0:=by
 unfold fE
 by_cases h:a=0
 ·rw [if_pos h];simp [h]
 ·rw [if_neg h];simp [h]
theorem Td(b:Int):fE 0 b=b:=rfl
theorem O4{a b:Int}(h:a≠0):fE a b=a:=if_neg h
theorem Chy{c:Bool}{e:Int}(he:e≠0):n5 c e=0↔c=true:=by cases c<;>simp [n5,he]
theorem Cfp{bf:List ByteArray}{n:ByteArray}(h:Vb bf n=0):n∉bf:=by
 have h2:=(B4l.1 h).2
 rw [Chy (by decide)] at h2
 intro hm
 have:(bf.any fun x=>decide (x=n))=true:=List.any_eq_true.2 ⟨n,hm,by simp⟩
 rw [this] at h2;cases h2
def Exd(b:List ByteArray)(x:Int×List ByteArray)(l:List ByteArray):Prop:=x.1=0→x.2=b++l∧(b.Nodup→x.2.Nodup)
theorem A3c{α :Type}(nm: α→ByteArray)(f: α→Int):∀(l:List α) (b:List ByteArray),Exd b (Fs nm f b l) (l.map nm)
 | [],b=>fun _=>⟨by simp [Fs],fun h=>h⟩
 |x::k,b=>by
  intro h
  rw [Fs] at h ⊢
  by_cases hz:fE (Vb b (nm x)) (f x)=0
  ·rw [if_neg (by simp [hz])] at h ⊢
   obtain ⟨h1,h2⟩:=A3c nm f k (b++ [nm x]) h
   have hn:=Cfp (B4l.1 hz).1
   refine ⟨by rw [h1];simp,fun hb=>h2 ?_⟩
   rw [List.nodup_append]
   refine ⟨hb,by simp,?_⟩
   intro a ha c hc hac
   rw [List.mem_singleton] at hc
   subst hc;subst hac
   exact hn ha
  ·rw [if_pos (by simpa using hz)] at h
   exact absurd h hz
theorem Aln{α :Type}(most:Nat)(nm: α→ByteArray)(f: α→Int)(b:List ByteArray)(l:List α):Exd b (La most nm f b l) (l.map nm):=by
 intro h
 unfold La at h ⊢
 by_cases hm:most < l.length
 ·rw [if_pos hm] at h;exact absurd h (by show¬((6:Int)=0);decide)
 ·rw [if_neg hm] at h ⊢;exact A3c nm f l b h
theorem Abe{b l1 l2:List ByteArray}{p:Int×List ByteArray}{f:List ByteArray→Int×List ByteArray}(h1:Exd b p l1)(h2:∀c,Exd c (f c) l2):Exd b (Ns p f) (l1++l2):=by
 intro h
 unfold Ns at h ⊢
 by_cases hp:p.1=0
 ·rw [if_neg (by simp [hp])] at h ⊢
  obtain ⟨e1,n1⟩:=h1 hp
  obtain ⟨e2,n2⟩:=h2 p.2 h
  exact ⟨by rw [e2,e1,List.append_assoc],fun hb=>n2 (n1 hb)⟩
 ·rw [if_pos (by simpa using hp)] at h
  exact absurd h hp
theorem A5e(b l:List ByteArray):Exd b (txE b l) l:=by
 have:=Aln 32 (fun x:ByteArray=>x) (fun _=>0) b l
 rw [List.map_id'] at this
 exact this
theorem Bnq(s:Aa):Exd [] (Anr s) (s.Vars.map (·.Name)++s.Resources.map (·.Name)++s.Stores.map (·.Name)++s.Belts.map (·.Name)++s.Queues++s.Streams++s.Tallies++s.Levels++s.Counts++s.Routines.map (·.Name)):=
 Abe (Abe (Abe (Abe (Abe (Abe (Abe (Abe (Abe (Aln _ _ _ _ _) fun _=>Aln _ _ _ _ _) fun _=>Aln _ _ _ _ _) fun _=>Aln _ _ _ _ _)
  fun _=>A5e _ _) fun _=>A5e _ _) fun _=>A5e _ _) fun _=>A5e _ _) fun _=>A5e _ _) fun _=>Aln _ _ _ _ _
def Uni(s:Aa):Prop:=(s.Vars.map (·.Name)++s.Resources.map (·.Name)++s.Stores.map (·.Name)++s.Belts.map (·.Name)++s.Queues++s.Streams++s.Tallies++s.Levels++s.Counts++s.Routines.map (·.Name)).Nodup
theorem Bnr{s:Aa}(h:(Anr s).1=0):Uni s:=by
 obtain ⟨h1,h2⟩:=Bnq s h
 have:=h2 List.nodup_nil
 rw [h1,List.nil_append] at this
 exact this
theorem B7j{a b:List ByteArray}{n:ByteArray}(h:(a++b).Nodup)(hn:n∈b):n∉a:=fun ha=>(List.nodup_append.1 h).2.2 n ha n hn rfl
theorem Beg{a b:List ByteArray}(h:(a++b).Nodup):a.Nodup:=(List.nodup_append.1 h).1
theorem Bga{α :Type}(nm: α→ByteArray)(l:List α)(n:ByteArray):(l.any fun x=>decide (nm x=n))=true↔n∈l.map nm:=by
 rw [List.any_eq_true,List.mem_map]
 exact ⟨fun ⟨x,h1,h2⟩=>⟨x,h1,of_decide_eq_true h2⟩,fun ⟨x,h1,h2⟩=>⟨x,h1,decide_eq_true h2⟩⟩
theorem Bpm(l:List ByteArray)(n:ByteArray):(l.any fun x=>decide (n=x))=true↔n∈l:=by
 rw [List.any_eq_true]
 exact ⟨fun ⟨x,h1,h2⟩=>by rw [of_decide_eq_true h2];exact h1,fun h=>⟨n,h,by simp⟩⟩
theorem Aeq{α :Type}(nm: α→ByteArray)(l:List α)(n:ByteArray)(h:n∉l.map nm):(l.any fun x=>decide (nm x=n))=false:=Bool.eq_false_iff.2 fun hh=>h ((Bga nm l n).1 hh)
theorem Ahd(l:List ByteArray)(n:ByteArray)(h:n∉l):(l.any fun x=>decide (n=x))=false:=Bool.eq_false_iff.2 fun hh=>h ((Bpm l n).1 hh)
theorem neK{a b:ByteArray}(h:decide (a=b)=false)(i:Int):(a,i).1≠b:=of_decide_eq_false h
theorem A99{s:Aa}(hu:Uni s)(n:ByteArray):decide (Gf s n=Vl)=s.Routines.any fun x=>decide (x.Name=n):=by
 cases h10:s.Routines.any fun x=>decide (x.Name=n) with
 |true=>
  have hm:=B7j hu ((Bga _ _ _).1 h10)
  simp only [List.mem_append,not_or] at hm
  obtain ⟨⟨⟨⟨⟨⟨⟨⟨a1,a2⟩,a3⟩,a4⟩,a5⟩,a6⟩,a7⟩,a8⟩,a9⟩:=hm
  simp only [Gf,Akx,Aeq _ _ _ a1,Aeq _ _ _ a2,Aeq _ _ _ a3,Aeq _ _ _ a4,Ahd _ _ a5,Ahd _ _ a6,Ahd _ _ a7,Ahd _ _ a8,Ahd _ _ a9,h10,cond_false,cond_true,decide_true]
 |false=>
  apply decide_eq_false
  unfold Gf Akx
  rw [h10]
  simp only [cond_false]
  repeat' (refine (?_:Prod.fst (bif _ then _ else _)≠_);rw [Bool.cond_eq_ite];split;(· exact neK rfl _))
  exact neK rfl _
theorem Bgw{s:Aa}(hu:Uni s)(n:ByteArray):decide (Gf s n=Im)=s.Stores.any fun x=>decide (x.Name=n):=by
 cases h10:s.Stores.any fun x=>decide (x.Name=n) with
 |true=>
  have hm:=B7j (Beg (Beg (Beg (Beg (Beg (Beg (Beg hu))))))) ((Bga _ _ _).1 h10)
  simp only [List.mem_append,not_or] at hm
  obtain ⟨a1,a2⟩:=hm
  simp only [Gf,Akx,Aeq _ _ _ a1,Aeq _ _ _ a2,h10,cond_false,cond_true,decide_true]
 |false=>
  apply decide_eq_false
  unfold Gf Akx
  rw [h10]
  simp only [cond_false]
  repeat' (refine (?_:Prod.fst (bif _ then _ else _)≠_);rw [Bool.cond_eq_ite];split;(· exact neK rfl _))
  exact neK rfl _
theorem Bgv{s:Aa}(hu:Uni s)(n:ByteArray):decide (Gf s n=R6)=s.Counts.any fun x=>decide (x=n):=by
 have e:(s.Counts.any fun x=>decide (x=n))=s.Counts.any fun x=>decide (n=x):=by
  congr 1;funext x;exact decide_eq_decide.2 ⟨Eq.symm,Eq.symm⟩
 rw [e]
 cases h10:s.Counts.any fun x=>decide (n=x) with
 |true=>
  have hm:=B7j (Beg hu) ((Bpm _ _).1 h10)
  simp only [List.mem_append,not_or] at hm
  obtain ⟨⟨⟨⟨⟨⟨⟨a1,a2⟩,a3⟩,a4⟩,a5⟩,a6⟩,a7⟩,a8⟩:=hm
  simp only [Gf,Akx,Aeq _ _ _ a1,Aeq _ _ _ a2,Aeq _ _ _ a3,Aeq _ _ _ a4,Ahd _ _ a5,Ahd _ _ a6,Ahd _ _ a7,Ahd _ _ a8,h10,cond_false,cond_true,decide_true]
 |false=>
  apply decide_eq_false
  unfold Gf Akx
  rw [h10]
  simp only [cond_false]
  repeat' (refine (?_:Prod.fst (bif _ then _ else _)≠_);rw [Bool.cond_eq_ite];split;(· exact neK rfl _))
  exact neK rfl _
theorem B0s{s:Aa}(hu:Uni s)(t:Au):S4 s t=Abd s t:=by
 unfold S4 Abd
 have h1:=A99 hu t.Name
 have h2:=Bgw hu t.Name
 have h3:=Bgv hu t.Name
 by_cases hw:Ag3 t.What=0
 ·rw [if_pos hw,if_pos hw]
 ·rw [if_neg hw,if_neg hw]
  by_cases w1:Ag3 t.What=1
  ·simp only [w1,if_true]
   rw [←h1]
   by_cases hk:Gf s t.Name=Vl<;>simp [hk]
  ·by_cases w2:Ag3 t.What=2
   ·simp only [w1,w2,if_true,if_false]
    rw [←h2]
    by_cases hk:Gf s t.Name=Im<;>simp [hk]
   ·simp only [w1,w2,if_false]
    rw [←h3]
    by_cases hk:Gf s t.Name=R6<;>simp [hk]
theorem B0l(s:Aa):Af0 S4 s=Af0 Abd s:=by
 unfold Af0
 by_cases h:(Anr s).1=0
 ·have:S4 s=Abd s:=funext (B0s (Bnr h))
  rw [this]
 ·rw [O4 h,O4 h]
theorem Bsp(m:Ad):Aiu S4 m=Aiu Abd m:=by
 have:Af0 S4=Af0 Abd:=funext B0l
 unfold Aiu
 rw [this]
end Go.Proofs.YtogleahbpobaiaaGreat.Ev
namespace Go.Proofs.YtogleahbpobaiaaGreat.Ev
open Go An
set_option maxRecDepth 100000
set_option linter.unusedVariables false
set_option linter.unusedSimpArgs false
set_option linter.unnecessarySimpa false
def tr{α :Type}(ks:List α):List Bool:=List.replicate ks.length true
theorem Bmy{α :Type}(ks:List α)(n: α):tr ks++ [true]=tr (ks++ [n]):=by
 unfold tr;rw [List.length_append,List.length_singleton,List.replicate_succ']
def nx(ks:List ByteArray)(n:ByteArray):List ByteArray:=if Vb ks n=0 then ks++ [n] else ks
def B4j(X:Option Int)(n:ByteArray)(ks:List ByteArray)(vs:List Bool):Option (Int×List ByteArray×List Bool):=
 X.bind fun r=>bif r != 0 then some (r,ks,vs) else fko (ks.findIdx? fun b=>n == b)
  (fun i=>bif vs.getD i default then some (4,ks,vs) else fko (ks.findIdx? fun b=>n == b) (fun j=>some (0,ks,vs.set j true)) (some (0,ks++ [n],vs++ [true])))
  (fko (ks.findIdx? fun b=>n == b) (fun j=>some (0,ks,vs.set j true)) (some (0,ks++ [n],vs++ [true])))
theorem Bui{α :Type}{ks:List α}{i:Nat}(h:i < ks.length):(tr ks).getD i default=true:=by
 unfold tr
 rw [List.getD_eq_getElem?_getD,List.getElem?_replicate,if_pos h];rfl
theorem Avb{α :Type}{ks:List α}{p: α→Bool}(h:ks.findIdx? p=none):ks.any p=false:=by
 rw [List.findIdx?_eq_none_iff] at h
 rw [List.any_eq_false]
 intro x hx
 simp [h x hx]
theorem Art{α :Type}{ks:List α}{p: α→Bool}{i:Nat}(h:ks.findIdx? p=some i):ks.any p=true:=by
 obtain ⟨h1,h2,_⟩:=List.findIdx?_eq_some_iff_getElem.1 h
 exact List.any_eq_true.2 ⟨_,List.getElem_mem h1,h2⟩
theorem A9g(n b:ByteArray):(n == b)=decide (b=n):=by
 show (n.data == b.data)=_
 rw [Bool.eq_iff_iff,beq_iff_eq,decide_eq_true_iff]
 constructor
 ·intro h;cases n;cases b;cases h;rfl
 ·rintro rfl;rfl
theorem Bw1{X:Option Int}{n:ByteArray}(ks:List ByteArray)(h:X=some (Qg n)):B4j X n ks (tr ks)=some (Vb ks n,nx ks n,tr (nx ks n)):=by
 subst h
 unfold B4j nx Vb
 rw [Option.bind_some]
 by_cases h0:Qg n=0
 ·have e:(fun b=>n == b)=fun x:ByteArray=>decide (x=n):=funext fun b=>A9g n b
  rw [h0,e]
  cases hf:ks.findIdx? fun x=>decide (x=n) with
  |none=>
   rw [Avb hf]
   simp only [fko,fE,n5,Bool.not_false,cond_true,if_true,Bmy ks n]
   rfl
  |some i=>
   rw [Art hf]
   obtain ⟨h1,_⟩:=List.findIdx?_eq_some_iff_getElem.1 hf
   simp only [fko,Bui h1]
   rfl
 ·rw [Um h0,cond_true,O4 h0,if_neg h0]
def Out(X:Option (Int×List ByteArray×List Bool))(p:Int×List ByteArray):Prop:=∃ks,X=some (p.1,ks,tr ks)∧(p.1=0→ks=p.2)
theorem Bp3{α :Type}{nm: α→ByteArray}{f: α→Int}{lq:List α→Nat→Int→List ByteArray→List Bool→Option (Nat×(Int×Int×List ByteArray×List Bool))}{bd: α→List ByteArray→List Bool→Option (Int×List ByteArray×List Bool)}
  (hn:∀i v ks vs,lq [] i v ks vs=some (1,(v,(i:Int),ks,vs)))
  (hc:∀x k i v ks vs,lq (x::k) i v ks vs=(bd x ks vs).bind fun o=>bif o.1 != 0 then some (0,(o.1,(i:Int),o.2.1,o.2.2)) else lq k (i+1) v o.2.1 o.2.2):
  ∀(k:List α) (i:Nat) (v:Int) (ks:List ByteArray),(∀x∈k,∀ks,∃ks',bd x ks (tr ks)=some (fE (Vb ks (nm x)) (f x),ks',tr ks')∧(fE (Vb ks (nm x)) (f x)=0→ks'=ks++ [nm x]))→
  ∃j ks',lq k i v ks (tr ks)=some (if (Fs nm f ks k).1=0 then (1,(v,(j,ks',tr ks'))) else (0,((Fs nm f ks k).1,(j,ks',tr ks'))))∧((Fs nm f ks k).1=0→ks'=(Fs nm f ks k).2):=by
 intro k
 induction k with
 |nil=>intro i v ks _;exact ⟨i,ks,by rw [hn,Fs];rfl,fun _=>rfl⟩
 |cons x k ih=>
  intro i v ks h
  obtain ⟨ks1,hb,hz⟩:=h x (by simp) ks
  rw [hc,hb,Option.bind_some]
  by_cases h0:fE (Vb ks (nm x)) (f x)=0
  ·have:=hz h0;subst this
   have e:Fs nm f ks (x::k)=Fs nm f (ks++ [nm x]) k:=by rw [Fs,if_neg (by simp [h0])]
   obtain ⟨j,ks',hj,he⟩:=ih (i+1) v (ks++ [nm x]) fun y hy=>h y (by simp [hy])
   rw [e]
   exact ⟨j,ks',by simp only [h0];exact hj,he⟩
  ·have e:Fs nm f ks (x::k)=(fE (Vb ks (nm x)) (f x),ks):=by rw [Fs,if_pos h0]
   rw [e]
   exact ⟨i,ks1,by simp only [Um h0,cond_true,if_neg h0],fun hh=>absurd hh h0⟩
def B02(most:Int)(n:Nat)(ks:List ByteArray)(vs:List Bool)(X:Option (Nat×(Int×Int×List ByteArray×List Bool))):Option (Int×List ByteArray×List Bool):=
 bif decide ((n:Int) > most) then some (6,ks,vs) else X.bind fun o=>Arf o.1 [some (o.2.1,o.2.2.2.1,o.2.2.2.2),some (0,o.2.2.2.1,o.2.2.2.2)]
theorem w5{α :Type}{nm: α→ByteArray}{f: α→Int}{lq:List α→Nat→Int→List ByteArray→List Bool→Option (Nat×(Int×Int×List ByteArray×List Bool))}{bd: α→List ByteArray→List Bool→Option (Int×List ByteArray×List Bool)}
  (hn:∀i v ks vs,lq [] i v ks vs=some (1,(v,(i:Int),ks,vs)))
  (hc:∀x k i v ks vs,lq (x::k) i v ks vs=(bd x ks vs).bind fun o=>bif o.1 != 0 then some (0,(o.1,(i:Int),o.2.1,o.2.2)) else lq k (i+1) v o.2.1 o.2.2)
  (most:Nat) (l:List α) (v:Int) (ks:List ByteArray) (X:Option (Nat×(Int×Int×List ByteArray×List Bool))) (hX:X=lq l 0 v ks (tr ks))
  (hb:∀x∈l,∀ks,∃ks',bd x ks (tr ks)=some (fE (Vb ks (nm x)) (f x),ks',tr ks')∧(fE (Vb ks (nm x)) (f x)=0→ks'=ks++ [nm x])):
  Out (B02 most l.length ks (tr ks) X) (La most nm f ks l):=by
 unfold Out B02 La
 by_cases hm:most < l.length
 ·rw [decide_eq_true (show (l.length:Int) > most by omega),if_pos hm]
  exact ⟨ks,rfl,fun _=>rfl⟩
 ·rw [decide_eq_false (show¬(l.length:Int) > most by omega),if_neg hm,cond_false,hX]
  obtain ⟨j,ks',hj,he⟩:=Bp3 hn hc l 0 v ks hb
  refine ⟨ks',?_,he⟩
  rw [hj,Option.bind_some]
  by_cases h0:(Fs nm f ks l).1=0
  ·rw [if_pos h0,S0,h0]
  ·rw [if_neg h0,H2]
def Gl(e:Int)(X:Option (Int×List ByteArray×List Bool)):Prop:=∃a b,X=some (e,a,b)
theorem Chx{X:Option (Int×List ByteArray×List Bool)}{p:Int×List ByteArray}{e:Int}{G:Int×List ByteArray×List Bool→Option (Int×List ByteArray×List Bool)}(hX:Out X p)
  (hG:∀e a b,e≠0→G (e,a,b)=some (e,a,b)) (h:∀ks,Gl e (G (0,ks,tr ks))):Gl (fE p.1 e) (X.bind G):=by
 obtain ⟨ks,rfl,h0⟩:=hX
 rw [Option.bind_some]
 by_cases hp:p.1=0
 ·rw [hp,Td];exact h ks
 ·rw [hG _ _ _ hp,O4 hp];exact ⟨_,_,rfl⟩
theorem Awi{X:Option (Int×List ByteArray×List Bool)}{p:Int×List ByteArray}{e:Int}{f:List ByteArray→Int×List ByteArray}{G:Int×List ByteArray×List Bool→Option (Int×List ByteArray×List Bool)}(hX:Out X p)
  (hG:∀e a b,e≠0→G (e,a,b)=some (e,a,b)) (h:∀ks,Gl (fE (f ks).1 e) (G (0,ks,tr ks))):Gl (fE (Ns p f).1 e) (X.bind G):=by
 obtain ⟨ks,rfl,h0⟩:=hX
 rw [Option.bind_some]
 unfold Ns
 by_cases hp:p.1=0
 ·rw [if_neg (by simp [hp]),←h0 hp,hp];exact h ks
 ·rw [if_pos hp,hG _ _ _ hp,O4 hp];exact ⟨_,_,rfl⟩
theorem nzE{e:Int}(h:e≠0)(a:List ByteArray)(b:List Bool)(Y:Option (Int×List ByteArray×List Bool)):(bif e != 0 then some (e,a,b) else Y)=some (e,a,b):=by rw [Um h];rfl
theorem A5d(p:Int×List ByteArray)(f g:List ByteArray→Int×List ByteArray):Ns (Ns p f) g=Ns p fun b=>Ns (f b) g:=by
 unfold Ns
 by_cases hp:p.1=0
 ·simp [hp]
 ·simp [hp]
theorem B0x{α :Type}{f: α→Int}{lq:List α→Nat→Int→Option (Nat×(Int×Int))}{bd: α→Option Int}
  (hn:∀i v,lq [] i v=some (1,(v,(i:Int))))
  (hc:∀x k i v,lq (x::k) i v=(bd x).bind fun o=>bif o != 0 then some (0,(o,(i:Int))) else lq k (i+1) v):
  ∀(k:List α) (i:Nat) (v:Int),(∀x∈k,bd x=some (f x))→∃j,lq k i v=some (if Ahc f k=0 then (1,(v,j)) else (0,(Ahc f k,j))):=by
 intro k
 induction k with
 |nil=>intro i v _;exact ⟨i,by rw [hn];rfl⟩
 |cons x k ih=>
  intro i v h
  obtain ⟨j,hj⟩:=ih (i+1) v fun y hy=>h y (by simp [hy])
  rw [hc,h x (by simp),Option.bind_some,Ahc]
  by_cases h0:f x=0
  ·exact ⟨j,by rw [h0,Td];exact hj⟩
  ·exact ⟨i,by rw [O4 h0,Um h0,cond_true,if_neg h0]⟩
def Cb9(most:Int)(n:Nat)(X:Option (Nat×(Int×Int))):Option Int:=bif decide ((n:Int) > most) then some 6 else X.bind fun o=>Arf o.1 [some o.2.1,some 0]
theorem Bih{α :Type}{f: α→Int}{lq:List α→Nat→Int→Option (Nat×(Int×Int))}{bd: α→Option Int}
  (hn:∀i v,lq [] i v=some (1,(v,(i:Int))))
  (hc:∀x k i v,lq (x::k) i v=(bd x).bind fun o=>bif o != 0 then some (0,(o,(i:Int))) else lq k (i+1) v)
  (most:Nat) (l:List α) (v:Int) (X:Option (Nat×(Int×Int))) (hX:X=lq l 0 v) (hb:∀x∈l,bd x=some (f x)):Cb9 most l.length X=some (if most < l.length then 6 else Ahc f l):=by
 unfold Cb9
 by_cases hm:most < l.length
 ·rw [decide_eq_true (show (l.length:Int) > most by omega),if_pos hm];rfl
 ·rw [decide_eq_false (show¬(l.length:Int) > most by omega),if_neg hm,cond_false,hX]
  obtain ⟨j,hj⟩:=B0x hn hc l 0 v hb
  rw [hj,Option.bind_some]
  by_cases h0:Ahc f l=0
  ·rw [if_pos h0,S0,h0]
  ·rw [if_neg h0,H2]
theorem H7(L:Nat)(x lo hi:Int):Bi L x lo hi=some (Bp lo hi x):=by
 simp only [Ah7,Bi,aN,aB,Di,ge_iff_le,Bp]
theorem Aiy(L:Nat)(t:Int):Ks L t=some (Wg t):=by
 simp only [Akj,Ks,aN,aB,Di,ge_iff_le,Wg,Bp]
theorem Akw(L:Nat)(t n:Int):S8 L t n=some (Ajv t n):=by
 simp only [Anf,S8,aN,aB,Ax3,H7,Option.bind_some,Kq,Ajv]
 by_cases h1:t=1
 ·simp [h1]
 ·by_cases h2:t=2
  ·simp [h2]
  ·by_cases h3:t=3
   ·simp [h3]
   ·simp [h1,h2,h3,beq_false_of_ne h1,beq_false_of_ne h2,beq_false_of_ne h3]
theorem Yg(L:Nat)(l:List ByteArray)(s:ByteArray)(hl:l.length≤maxLen)(hL:maxLen < L):B1 L l s=some (l.any fun x=>decide (x=s)):=by
 have e:(fun x:ByteArray=>decide (s=x))=fun x=>decide (x=s):=funext fun x=>decide_eq_decide.2 ⟨Eq.symm,Eq.symm⟩
 simp only [Qv,B1,aN,aB,Gw L l s hl (by omega),Option.bind_some,Anx,e]
end Go.Proofs.YtogleahbpobaiaaGreat.Ev
