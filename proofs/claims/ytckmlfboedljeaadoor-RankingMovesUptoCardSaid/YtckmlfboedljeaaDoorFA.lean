/-  The types of the data, and of rows of them. -/
import Derived.Test.YtckmlfboedljeaaDoorRows
import Derived.WalkKit
import Derived.LoopN
import Derived.Great.BuildSlice
import Derived.Deep.Draws
namespace Go.Proofs.YtckmlfboedljeaaDoor.Ev
open Go
set_option linter.unusedVariables false
set_option linter.unusedSimpArgs false
set_option linter.unnecessarySimpa false
structure P5 where
 a0:Bool
 a1:Bool
 a2:Bool
 deriving Inhabited
structure Ad where
 Hi:Int
 Lo:Int
 deriving Inhabited
structure Bv where
 Minus:Bool
 Abs:Ad
 deriving Inhabited
structure Aa where
 N:Int
 D:Int
 deriving Inhabited
structure Ac where
 Mean:Aa
 Half:Aa
 deriving Inhabited
structure Ab where
 Point:Int
 Seen:(List Aa)
 Out:Int
 deriving Inhabited
structure Ak where
 u_hi:Int
 u_lo:Int
 deriving Inhabited
inductive LX where
 |t3 (l:List Int)
 |t24 (l:List Aa)
 |t39 (l:List Ab)
 |t42 (l:List Ac)
 deriving Inhabited
def LX.e:LX→Nat
 | .t3 l=>3
 | .t24 l=>24
 | .t39 l=>39
 | .t42 l=>42
def LX.sz:LX→Nat
 | .t3 l=>1
 | .t24 l=>2
 | .t39 l=>3
 | .t42 l=>4
def LX.len:LX→Nat
 | .t3 l=>l.length
 | .t24 l=>l.length
 | .t39 l=>l.length
 | .t42 l=>l.length
def LX.g3:LX→Option (List Int)
 | .t3 l=>some l
 |_=>none
def LX.g24:LX→Option (List Aa)
 | .t24 l=>some l
 |_=>none
def LX.g39:LX→Option (List Ab)
 | .t39 l=>some l
 |_=>none
def LX.g42:LX→Option (List Ac)
 | .t42 l=>some l
 |_=>none
def Ahv{α :Type}(K: α→LX)(o:Option α):Option LX:=match o with
 |some l=>some (K l)
 |none=>none
def Ayc{α :Type}(b:Bool)(K: α→LX)(o:Option α):Option LX:=match b,o with
 |true,some l=>some (K l)
 |_,_=>none
def LX.cat(x y:LX):Option LX:=match x with
 | .t3 l=>Ahv (fun m=> .t3 (l++m)) y.g3
 | .t24 l=>Ahv (fun m=> .t24 (l++m)) y.g24
 | .t39 l=>Ahv (fun m=> .t39 (l++m)) y.g39
 | .t42 l=>Ahv (fun m=> .t42 (l++m)) y.g42
def LX.sub(x:LX)(a b:Nat):LX:=match x with
 | .t3 l=> .t3 ((l.take b).drop a)
 | .t24 l=> .t24 ((l.take b).drop a)
 | .t39 l=> .t39 ((l.take b).drop a)
 | .t42 l=> .t42 ((l.take b).drop a)
def LX.rep(x:LX)(n:Nat):LX:=match x with
 | .t3 l=> .t3 (List.replicate n (l.getD 0 default))
 | .t24 l=> .t24 (List.replicate n (l.getD 0 default))
 | .t39 l=> .t39 (List.replicate n (l.getD 0 default))
 | .t42 l=> .t42 (List.replicate n (l.getD 0 default))
end Go.Proofs.YtckmlfboedljeaaDoor.Ev
namespace Go.Proofs.YtckmlfboedljeaaDoor.Ev
open Go
set_option linter.unusedVariables false
set_option linter.unusedSimpArgs false
set_option linter.unnecessarySimpa false
inductive PV where
 |any
 |val (v:Value)
 |agg (l:List PV)
 |tup (l:List PV)
 |sl (own:Bool) (e sz:Nat) (es:List (List PV))
 |lst (own:Bool) (x:LX)
 |ref (l:List PV)
 |loc (d off:Nat)
 |el (d sz i off:Nat)
 |vw (c:Bool) (d e sz n:Nat)
 |mp (d:Nat)
 |clo (f n:Nat) (caps:List PV)
 |arrO (x:LX)
 |mapO (gk gv:Bool) (ks vs:LX)
 |mapE (es:Array MapEntry) (clock:Nat) (gk gv:Bool) (ks vs:LX)
 deriving Inhabited
def PV.view:PV→PV
 | .sl _ e sz es=> .sl false e sz es
 | .lst _ x=> .lst false x
 |p=>p
def PV.flat:PV→Bool
 | .any=>true
 | .val _=>true
 | .lst _ _=>true
 |_=>false
inductive PV.Le:PV→PV→Prop
 |view (p:PV):PV.Le p p.view
 |nil (own:Bool) (y:LX) (h:y.len=0):PV.Le (.val (.slice none 0 0)) (.lst own y)
def Em(l:List PV)(off:Nat)(new:List PV):List PV:=match l,off,new with
 | [],_,_=> []
 |l,_,[]=>l
 |_::r,0,q::new=>q::Em r 0 new
 |p::r,n+1,new=>p::Em r n new
def Vv:PV→PV→Option Bool
 | .val (.int k a),.val (.int k' b)=>match decide (k=k') with
  |true=>some (a == b)
  |false=>none
 | .val (.string a),.val (.string b)=>some (a == b)
 | .val (.bool a),.val (.bool b)=>some (a == b)
 |_,_=>none
def Ab0:PV→List PV→PV→List PV→Option Bool
 |a,[],b,[]=>Vv a b
 |a,a'::l,b,b'::m=>match Vv a b,Ab0 a' l b' m with
  |some x,some y=>some (x && y)
  |_,_=>none
 |_,_,_,_=>none
def Vw:List PV→List PV→Option Bool
 |a::l,b::m=>Ab0 a l b m
 |_,_=>none
end Go.Proofs.YtckmlfboedljeaaDoor.Ev
namespace Go.Proofs.YtckmlfboedljeaaDoor.Ev
open Go
set_option linter.unusedVariables false
set_option linter.unusedSimpArgs false
set_option linter.unnecessarySimpa false
def t8(l:List PV)(n:Nat):Bool:=match l,n with
 |_,0=>true
 |_::r,n+1=>t8 r n
 |_,_=>false
def Asc(k:IntKind):PV→Option Int
 | .val (.int k' a)=>match decide (k'=k) with
  |true=>some a
  |false=>none
 |_=>none
def Ai5:PV→Option Bool
 | .val (.bool a)=>some a
 |_=>none
inductive Ls:List PV→List PV→Prop
 |nil:Ls [] []
 |cons {p q:PV} {r s:List PV} (h:PV.Le p q) (hr:Ls r s):Ls (p::r) (q::s)
theorem Acq{k:IntKind}{p:PV}{a:Int}(h:Asc k p=some a):PV.Le p (.val (.int k a)):=by
 unfold Asc at h
 split at h
 ·split at h
  ·rename_i hk
   have:=of_decide_eq_true hk
   subst this
   injection h with h;subst h;exact .view _
  ·cases h
 ·cases h
theorem n7{p:PV}{a:Bool}(h:Ai5 p=some a):PV.Le p (.val (.bool a)):=by
 unfold Ai5 at h
 split at h
 ·injection h with h;subst h;exact .view _
 ·cases h
def Aku{α :Type}(d:List PV→Option α):List (List PV)→Option (List α)
 | []=>some []
 |r::rs=>match d r,Aku d rs with
  |some a,some l=>some (a::l)
  |_,_=>none
theorem Aa0{α :Type} [Inhabited α]{d:List PV→Option α}{row: α→List PV}(hd:∀r a,d r=some a→Ls r (row a)):∀(rs:List (List PV)) (l:List α),Aku d rs=some l→
  l.length=rs.length∧∀(i:Nat) (r:List PV),rs[i]? =some r→Ls r (row (l.getD i default))
 | [],l,h=>by
  simp only [Aku,Option.some.injEq] at h
  subst h
  exact ⟨rfl,fun i r hr=>by simp at hr⟩
 |r::rs,l,h=>by
  simp only [Aku] at h
  split at h
  ·rename_i a m h1 h2
   injection h with h
   subst h
   obtain ⟨q1,q2⟩:=Aa0 hd rs m h2
   refine ⟨by simp [q1],fun i x hx=> ?_⟩
   cases i with
   |zero=>simp at hx;subst hx;simpa using hd _ _ h1
   |succ i=>simpa using q2 i x (by simpa using hx)
  ·cases h
def q9:List PV→Bool
 | []=>true
 |p::r=>match p.flat with
  |true=>q9 r
  |false=>false
theorem Aba:∀(l:List PV),q9 l=true→∀p∈l,p.flat=true
 | [],_,p,h=>by cases h
 |q::r,h,p,hp=>by
  simp only [q9] at h
  cases hq:q.flat with
  |false=>rw [hq] at h;cases h
  |true=>
   rw [hq] at h
   rcases List.mem_cons.1 hp with e|e
   ·subst e;exact hq
   ·exact Aba r h p e
structure CD (α :Type) where
 d:PV→Option α
 w: α→PV
 le:∀ {p a},d p=some a→PV.Le p (w a)
 fl:∀a,(w a).flat=true
def oI(k:IntKind):CD Int:=⟨Asc k,fun x=> .val (.int k x),Acq,fun _=>rfl⟩
def oB:CD Bool:=⟨Ai5,fun x=> .val (.bool x),n7,fun _=>rfl⟩
class TL {α :Type} (K:List α→LX) (g:outParam (LX→Option (List α))) (u z:outParam Nat):Prop where
 e:∀l,(K l).e=u:=by intro l;rfl
 sz:∀l,(K l).sz=z:=by intro l;rfl
 len:∀l,(K l).len=l.length:=by intro l;rfl
 gk:∀y m,g y=some m→y=K m:=by intro y m h;cases y<;>first|(injection h with h;subst h;rfl)|cases h
 of:∀x,x.e=u→∃l,x=K l:=by intro x h;cases x<;>first|exact ⟨_,rfl⟩|(simp [LX.e] at h)
def dL{α :Type}(g:LX→Option (List α)):PV→Option (List α)
 | .lst _ x=>g x
 | .val (.slice none 0 0)=>some []
 |_=>none
def oW{α :Type}(K:List α→LX){g:LX→Option (List α)}{e sz:Nat} [k:TL K g e sz]:CD (List α):=⟨dL g,fun x=> .lst false (K x),fun {p a} h=>(by
 unfold dL at h
 split at h
 ·rw [k.gk _ _ h];exact .view _
 ·injection h with h;subst h;exact .nil false _ (k.len _)
 ·cases h),fun _=>rfl⟩
structure RF (α :Type) where
 d:List PV→Option α
 w: α→List PV
 le:∀r a,d r=some a→Ls r (w a)
 fl:∀a,q9 (w a)=true
def CD.o{α :Type}(c:CD α):RF α :=⟨fun
 | [p]=>c.d p
 |_=>none,fun a=> [c.w a],fun r a h=>(by
 split at h
 ·exact .cons (c.le h) .nil
 ·cases h),fun a=>by simp only [q9,c.fl]⟩
def CD.c{α β :Type}(c:CD α)(f:RF β):RF (α×β):=⟨fun
 |p::r=>match c.d p,f.d r with
  |some a,some b=>some (a,b)
  |_,_=>none
 |_=>none,fun a=>c.w a.1::f.w a.2,fun r a h=>(by
 split at h
 ·split at h
  ·rename_i h1 h2
   injection h with h;subst h
   exact .cons (c.le h1) (f.le _ _ h2)
  ·cases h
 ·cases h),fun a=>by simp only [q9,c.fl,f.fl]⟩
def RF.to{α β :Type}(f:RF α)(g: α→β)(w: β→List PV)(h:∀a,w (g a)=f.w a:=by intro a;rfl)(h2:∀a,q9 (w a)=true:=by intro a;rfl):RF β :=⟨fun r=>match f.d r with
 |some a=>some (g a)
 |none=>none,w,fun r a hh=>(by
 split at hh
 ·rename_i h1
  injection hh with hh;subst hh
  rw [h];exact f.le _ _ h1
 ·cases hh),h2⟩
instance:TL LX.t3 LX.g3 3 1:= {}
instance:TL LX.t24 LX.g24 24 2:= {}
instance:TL LX.t39 LX.g39 39 3:= {}
instance:TL LX.t42 LX.g42 42 4:= {}
def Al(x:Aa):List PV:= [.val (.int .i64 x.N),.val (.int .i64 x.D)]
def O1:RF Aa:=RF.to ((oI .i64).c ((oI .i64).o)) (fun(a0,a1)=> .mk a0 a1) Al
def n9(x:Ab):List PV:= [.val (.int .i64 x.Point),.lst false (.t24 x.Seen),.val (.int .i64 x.Out)]
def O2:RF Ab:=RF.to ((oI .i64).c ((oW LX.t24).c ((oI .i64).o))) (fun(a0,a1,a2)=> .mk a0 a1 a2) n9
def Pv(x:Ac):List PV:= [.val (.int .i64 x.Mean.N),.val (.int .i64 x.Mean.D),.val (.int .i64 x.Half.N),.val (.int .i64 x.Half.D)]
def Kx:RF Ac:=RF.to ((oI .i64).c ((oI .i64).c ((oI .i64).c ((oI .i64).o)))) (fun(a0,a1,a2,a3)=> .mk (.mk a0 a1) (.mk a2 a3)) Pv
def Aep(x:P5):List PV:= [.val (.bool x.a0),.val (.bool x.a1),.val (.bool x.a2)]
def Cr(x:Ad):List PV:= [.val (.int .u64 x.Hi),.val (.int .u64 x.Lo)]
def Afs:RF Ad:=RF.to ((oI .u64).c ((oI .u64).o)) (fun(a0,a1)=> .mk a0 a1) Cr
def S9(x:Bv):List PV:= [.val (.bool x.Minus),.val (.int .u64 x.Abs.Hi),.val (.int .u64 x.Abs.Lo)]
def Aap:RF Bv:=RF.to (oB.c ((oI .u64).c ((oI .u64).o))) (fun(a0,a1,a2)=> .mk a0 (.mk a1 a2)) S9
def J3(x:Ak):List PV:= [.val (.int .u64 x.u_hi),.val (.int .u64 x.u_lo)]
def Adn:RF Ak:=RF.to ((oI .u64).c ((oI .u64).o)) (fun(a0,a1)=> .mk a0 a1) J3
def lT{α :Type}(K:List α→LX)(f:RF α)(rs:List (List PV)):Option LX:=Ahv K (Aku f.d rs)
def sT{α :Type} [Inhabited α](K:List α→LX)(f:RF α)(l:List α)(i off:Nat)(c:List PV):Option LX:=Ayc (t8 (f.w (l.getD i default)) (off+c.length)) (fun a=>K (l.set i a)) (f.d (Em (f.w (l.getD i default)) off c))
def RF.r{α :Type} [Inhabited α](f:RF α)(l:List α)(i:Nat):List PV:=f.w (l.getD i default)
def LX.row(x:LX)(i:Nat):List PV:=match x with
 | .t3 l=>(oI .i64).o.r l i
 | .t24 l=>O1.r l i
 | .t39 l=>O2.r l i
 | .t42 l=>Kx.r l i
def LX.set(x:LX)(i off:Nat)(c:List PV):Option LX:=match x with
 | .t3 l=>sT .t3 (oI .i64).o l i off c
 | .t24 l=>sT .t24 O1 l i off c
 | .t39 l=>sT .t39 O2 l i off c
 | .t42 l=>sT .t42 Kx l i off c
def tbl:List (Nat×(List (List PV)→Option LX)):= [(3,lT .t3 (oI .i64).o),(24,lT .t24 O1),(39,lT .t39 O2),(42,lT .t42 Kx)]
def lkT:List (Nat×(List (List PV)→Option LX))→Nat→List (List PV)→Option LX
 | [],_,_=>none
 |(a,f)::r,e,rs=>match Nat.beq e a with
  |true=>f rs
  |false=>lkT r e rs
def LX.lit(e:Nat)(rs:List (List PV)):Option LX:=lkT tbl e rs
def LX.nil(e:Nat):Option LX:=lkT tbl e []
class TG {α :Type} [Inhabited α] (K:List α→LX) (f:outParam (RF α)):Prop where
 row:∀l i,(K l).row i=f.w (l.getD i default):=by intro l i;rfl
 sz:∀a l,(f.w a).length=(K l).sz:=by intro a l;rfl
instance:TG LX.t3 (oI .i64).o:= {}
instance:TG LX.t24 O1:= {}
instance:TG LX.t39 O2:= {}
instance:TG LX.t42 Kx:= {}
def LX.find(x:LX)(c:List PV):Option (Option Nat):=match x,c with
 | .t3 l,[.val (.int k0 a0)]=>match decide (k0= .i64) with
  |true=>some (l.findIdx? fun b=>a0 == b)
  |_=>none
 |_,_=>none
def LX.push(x:LX)(c:List PV):Option LX:=match LX.lit x.e [c] with
 |some y=>x.cat y
 |none=>none
theorem Ag5{α :Type} [Inhabited α](l m:List α)(i:Nat)(h:i < l.length):(l++m).getD i default=l.getD i default:=by
 simp [List.getD,List.getElem?_append_left h]
theorem Ag6{α :Type} [Inhabited α](l m:List α)(i:Nat):(l++m).getD (l.length+i) default=m.getD i default:=by
 simp [List.getD,List.getElem?_append_right]
theorem Ano{α :Type} [Inhabited α](l:List α)(a b i:Nat)(h1:b≤l.length)(h2:i < b - a):((l.take b).drop a).getD i default=l.getD (a+i) default:=by
 simp only [List.getD_eq_getElem?_getD,List.getElem?_drop,List.getElem?_take]
 rw [if_pos (by omega)]
theorem Ann{α :Type} [Inhabited α](n i:Nat)(a: α)(h:i < n):(List.replicate n a).getD i default=a:=by
 simp [List.getD_eq_getElem?_getD,List.getElem?_replicate,h]
theorem Aez{α :Type} [Inhabited α](l:List α)(i:Nat)(a: α)(h:i < l.length):(l.set i a).getD i default=a:=by
 simp [List.getD_eq_getElem?_getD,h]
theorem Ae0{α :Type} [Inhabited α](l:List α)(i j:Nat)(a: α)(h:j≠i):(l.set i a).getD j default=l.getD j default:=by
 simp [List.getD_eq_getElem?_getD,List.getElem?_set_ne (fun e=>h e.symm)]
theorem Xh{α :Type} [Inhabited α](l:List α)(i:Nat)(h:i < l.length):l.getD i default=l[i]:=by
 simp [List.getD_eq_getElem?_getD,h]
theorem Ahg(l:List PV):∀n,t8 l n=true↔n≤l.length:=by
 induction l with
 |nil=>intro n;cases n<;>simp [t8]
 |cons p r ih=>intro n;cases n<;>simp [t8,ih]
section
variable {α :Type} [Inhabited α] {K:List α→LX} {f:RF α} {g:LX→Option (List α)} {e sz:Nat}
theorem A15 [q:TG K f](l:List α)(i:Nat):∀p∈(K l).row i,p.flat=true:=Aba _ (by rw [q.row];exact f.fl _)
theorem A16 [q:TG K f](l:List α)(i:Nat):((K l).row i).length=(K l).sz:=by rw [q.row];exact q.sz _ _
def Amk(p:Nat×(List (List PV)→Option LX)):Prop:=∀rs x,p.2 rs=some x→x.e=p.1∧x.len=rs.length∧∀(i:Nat) (r:List PV),rs[i]? =some r→Ls r (x.row i)
theorem A1q [k:TL K g e sz] [q:TG K f]:Amk (e,lT K f):=by
 intro rs x h
 simp only [lT,Ahv] at h
 cases hl:Aku f.d rs with
 |none=>rw [hl] at h;cases h
 |some l=>
  rw [hl] at h
  injection h with h;subst h
  obtain ⟨q1,q2⟩:=Aa0 f.le rs l hl
  exact ⟨k.e _,by rw [k.len];exact q1,fun i r hr=>by rw [q.row];exact q2 i r hr⟩
theorem A09 [k:TL K g e sz] [q:TG K f]{y z:LX}{l:List α}(h:Ahv (fun m=>K (l++m)) (g y)=some z):y.e=(K l).e∧z.e=(K l).e∧y.sz=(K l).sz∧z.sz=(K l).sz∧z.len=(K l).len+y.len∧(∀i,i < (K l).len→z.row i=(K l).row i)∧(∀i,z.row ((K l).len+i)=y.row i):=by
 cases hg:g y with
 |none=>rw [hg] at h;cases h
 |some m=>
  rw [hg] at h
  injection h with h;subst h
  rw [k.gk y m hg]
  simp only [k.e,k.sz,k.len,q.row,List.length_append,true_and]
  exact ⟨fun i hi=>by rw [Ag5 l m i hi],fun i=>by rw [Ag6]⟩
theorem A19 [k:TL K g e sz] [q:TG K f](l:List α)(a b:Nat)(h:b≤(K l).len):(K ((l.take b).drop a)).e=(K l).e∧(K ((l.take b).drop a)).sz=(K l).sz∧(K ((l.take b).drop a)).len=b - a∧∀i,i < b - a→(K ((l.take b).drop a)).row i=(K l).row (a+i):=by
 simp only [k.e,k.sz,k.len,q.row,true_and] at h ⊢
 exact ⟨by simp;omega,fun i hi=>by rw [Ano l a b i h hi]⟩
theorem A13 [k:TL K g e sz] [q:TG K f](l:List α)(n:Nat):(K (List.replicate n (l.getD 0 default))).e=(K l).e∧(K (List.replicate n (l.getD 0 default))).sz=(K l).sz∧(K (List.replicate n (l.getD 0 default))).len=n∧∀i,i < n→(K (List.replicate n (l.getD 0 default))).row i=(K l).row 0:=by
 simp only [k.e,k.sz,k.len,q.row,true_and]
 exact ⟨List.length_replicate,fun i hi=>by rw [Ann n i _ hi]⟩
theorem A18 [k:TL K g e sz] [q:TG K f]{i off:Nat}{c:List PV}{l:List α}{y:LX}(h:sT K f l i off c=some y):y.e=(K l).e∧y.sz=(K l).sz∧y.len=(K l).len∧off+c.length≤(K l).sz∧(i < (K l).len→Ls (Em ((K l).row i) off c) (y.row i))∧∀j,j≠i→y.row j=(K l).row j:=by
 unfold sT Ayc at h
 split at h
 ·rename_i a h1 h2
  injection h with h;subst h
  simp only [k.e,k.sz,k.len,q.row,true_and]
  refine ⟨List.length_set,by rw [←k.sz l,←q.sz (l.getD i default) l];exact (Ahg _ _).1 h1,fun hi=> ?_,fun j hj=> ?_⟩
  ·rw [Aez l i a hi]
   exact f.le _ _ h2
  ·rw [Ae0 l i j a hj]
 ·cases h
end
theorem LX.row_len(x:LX)(i:Nat):(x.row i).length=x.sz:=by cases x<;>exact A16 _ _
theorem LX.row_flat(x:LX)(i:Nat):∀p∈x.row i,p.flat=true:=by cases x<;>exact A15 _ _
def Aux:List (Nat×(List (List PV)→Option LX))→Prop
 | []=>True
 |p::r=>Amk p∧Aux r
theorem Azl:Aux tbl:=by
 unfold tbl
 repeat (first|exact trivial|refine ⟨A1q,?_⟩)
theorem Ao1:∀(l:List (Nat×(List (List PV)→Option LX))),Aux l→∀e,Amk (e,lkT l e)
 | [],_,e,rs,x,h=>by cases h
 |(a,f)::r,hl,e,rs,x,h=>by
  change (match Nat.beq e a with
   |true=>f rs
   |false=>lkT r e rs)=some x at h
  cases hb:Nat.beq e a with
  |true=>
   rw [hb] at h
   rw [Nat.eq_of_beq_eq_true hb]
   exact hl.1 rs x h
  |false=>
   rw [hb] at h
   exact Ao1 r hl.2 e rs x h
theorem LX.lit_spec(e:Nat)(rs:List (List PV))(x:LX)(h:LX.lit e rs=some x):x.e=e∧x.len=rs.length∧∀(i:Nat) (r:List PV),rs[i]? =some r→Ls r (x.row i):=Ao1 tbl Azl e rs x h
theorem LX.nil_spec(e:Nat)(x:LX)(h:LX.nil e=some x):x.e=e∧x.len=0:=⟨(LX.lit_spec e [] x h).1,(LX.lit_spec e [] x h).2.1⟩
theorem LX.cat_spec(x y z:LX)(h:x.cat y=some z):y.e=x.e∧z.e=x.e∧y.sz=x.sz∧z.sz=x.sz∧z.len=x.len+y.len∧(∀i,i < x.len→z.row i=x.row i)∧(∀i,z.row (x.len+i)=y.row i):=by cases x<;>exact A09 h
theorem LX.sub_spec(x:LX)(a b:Nat)(h:b≤x.len):(x.sub a b).e=x.e∧(x.sub a b).sz=x.sz∧(x.sub a b).len=b - a∧∀i,i < b - a→(x.sub a b).row i=x.row (a+i):=by cases x<;>exact A19 _ a b h
theorem LX.rep_spec(x:LX)(n:Nat):(x.rep n).e=x.e∧(x.rep n).sz=x.sz∧(x.rep n).len=n∧∀i,i < n→(x.rep n).row i=x.row 0:=by cases x<;>exact A13 _ n
theorem LX.set_spec(x:LX)(i off:Nat)(c:List PV)(y:LX)(h:LX.set x i off c=some y):y.e=x.e∧y.sz=x.sz∧y.len=x.len∧off+c.length≤x.sz∧(i < x.len→Ls (Em (x.row i) off c) (y.row i))∧∀j,j≠i→y.row j=x.row j:=by cases x<;>exact A18 h
theorem Ag1{α :Type} [Inhabited α]{l:List α}{p: α→Bool}{r:Option Nat}(h:l.findIdx? p=r):
  (r=none→∀i,i < l.length→p (l.getD i default)=false)∧(∀i,r=some i→i < l.length∧p (l.getD i default)=true∧∀j,j < i→p (l.getD j default)=false):=by
 subst h
 refine ⟨fun h i hi=> ?_,fun i h=> ?_⟩
 ·have:=List.findIdx?_eq_none_iff.1 h (l.getD i default) (by rw [Xh l i hi];exact List.getElem_mem hi)
  simpa using this
 ·obtain ⟨h1,h2,h3⟩:=List.findIdx?_eq_some_iff_getElem.1 h
  refine ⟨h1,by rw [Xh l i h1];exact h2,fun j hj=> ?_⟩
  rw [Xh l j (by omega)]
  simpa using h3 j hj
theorem LX.find_spec(x:LX)(c:List PV)(r:Option Nat)(h:LX.find x c=some r):(r=none→∀i,i < x.len→Vw c (x.row i)=some false)∧(∀i,r=some i→i < x.len∧Vw c (x.row i)=some true∧∀j,j < i→Vw c (x.row j)=some false):=by
 unfold LX.find at h
 split at h
 ·rename_i l k0 a0
  split at h
  ·rename_i hk0
   have e0:=of_decide_eq_true hk0
   subst e0
   injection h with h;subst h
   obtain ⟨s1,s2⟩:=Ag1 (rfl:l.findIdx? (fun b=>a0 == b)=_)
   have key:∀i b,(a0 == (l.getD i default))=b→Vw [.val (.int .i64 a0)] ((LX.t3 l).row i)=some b:=fun i b hb=>congrArg some hb
   exact ⟨fun hr i hi=>key _ _ (s1 hr i hi),fun i hr=>⟨(s2 i hr).1,key _ _ (s2 i hr).2.1,fun j hj=>key _ _ ((s2 i hr).2.2 j hj)⟩⟩
  ·cases h
 ·cases h
def gl0:List Int:= [12706,4303,3182,2776,2571,2447,2365,2306,2262,2228,2201,2179,2160,2145,2131,2120,2110,2101,2093,2086,2080,2074,2069,2064,2060,2056,2052,2048,2045,2042]
def GL:List (Nat×LX):= [(0,.t3 gl0)]
end Go.Proofs.YtckmlfboedljeaaDoor.Ev
