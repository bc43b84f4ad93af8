/-  Rows of data, cell by cell; what a row of cells reads as. -/
import Derived.Test.YtmimkinjcfekmaaGreatFp
namespace Go.Proofs.YtmimkinjcfekmaaGreat.Ev
open Go
set_option linter.unusedVariables false
set_option linter.unusedSimpArgs false
set_option linter.unnecessarySimpa false
def Ua(l:List PV)(n:Nat):Bool:=match l,n with
 |_,0=>true
 |_::r,n+1=>Ua r n
 |_,_=>false
def Aeb(k:IntKind):PV→Option Int
 | .val (.int k' a)=>match decide (k'=k) with
  |true=>some a
  |false=>none
 |_=>none
def Abl:PV→Option Bool
 | .val (.bool a)=>some a
 |_=>none
def Aec:PV→Option ByteArray
 | .val (.string a)=>some a
 |_=>none
inductive I8:List PV→List PV→Prop
 |nil:I8 [] []
 |cons {p q:PV} {r s:List PV} (h:PV.Le p q) (hr:I8 r s):I8 (p::r) (q::s)
theorem n5{k:IntKind}{p:PV}{a:Int}(h:Aeb k p=some a):PV.Le p (.val (.int k a)):=by
 unfold Aeb at h
 split at h
 ·split at h
  ·rename_i hk
   have:=of_decide_eq_true hk
   subst this
   injection h with h;subst h;exact .view _
  ·cases h
 ·cases h
theorem Abm{p:PV}{a:Bool}(h:Abl p=some a):PV.Le p (.val (.bool a)):=by
 unfold Abl at h
 split at h
 ·injection h with h;subst h;exact .view _
 ·cases h
theorem n6{p:PV}{a:ByteArray}(h:Aec p=some a):PV.Le p (.val (.string a)):=by
 unfold Aec at h
 split at h
 ·injection h with h;subst h;exact .view _
 ·cases h
def Aac{α :Type}(d:List PV→Option α):List (List PV)→Option (List α)
 | []=>some []
 |r::rs=>match d r,Aac d rs with
  |some a,some l=>some (a::l)
  |_,_=>none
theorem Vs{α :Type} [Inhabited α]{d:List PV→Option α}{row: α→List PV}(hd:∀r a,d r=some a→I8 r (row a)):∀(rs:List (List PV)) (l:List α),Aac d rs=some l→
  l.length=rs.length∧∀(i:Nat) (r:List PV),rs[i]? =some r→I8 r (row (l.getD i default))
 | [],l,h=>by
  simp only [Aac,Option.some.injEq] at h
  subst h
  exact ⟨rfl,fun i r hr=>by simp at hr⟩
 |r::rs,l,h=>by
  simp only [Aac] at h
  split at h
  ·rename_i a m h1 h2
   injection h with h
   subst h
   obtain ⟨q1,q2⟩:=Vs hd rs m h2
   refine ⟨by simp [q1],fun i x hx=> ?_⟩
   cases i with
   |zero=>simp at hx;subst hx;simpa using hd _ _ h1
   |succ i=>simpa using q2 i x (by simpa using hx)
  ·cases h
def T5:List PV→Bool
 | []=>true
 |p::r=>match p.flat with
  |true=>T5 r
  |false=>false
theorem V0:∀(l:List PV),T5 l=true→∀p∈l,p.flat=true
 | [],_,p,h=>by cases h
 |q::r,h,p,hp=>by
  simp only [T5] at h
  cases hq:q.flat with
  |false=>rw [hq] at h;cases h
  |true=>
   rw [hq] at h
   rcases List.mem_cons.1 hp with e|e
   ·subst e;exact hq
   ·exact V0 r h p e
structure CD (α :Type) where
 d:PV→Option α
 w: α→PV
 le:∀ {p a},d p=some a→PV.Le p (w a)
 fl:∀a,(w a).flat=true
def oI(k:IntKind):CD Int:=⟨Aeb k,fun x=> .val (.int k x),n5,fun _=>rfl⟩
def oB:CD Bool:=⟨Abl,fun x=> .val (.bool x),Abm,fun _=>rfl⟩
def oT:CD ByteArray:=⟨Aec,fun x=> .val (.string x),n6,fun _=>rfl⟩
class TL {α :Type} (K:List α→LX) (g:outParam (LX→Option (List α))) (u z:outParam Nat):Prop where
 e:∀l,(K l).e=u:=by intro l;rfl
 sz:∀l,(K l).sz=z:=by intro l;rfl
 len:∀l,(K l).len=l.length:=by intro l;rfl
 gk:∀y m,g y=some m→y=K m:=by intro y m h;cases y<;>first|(injection h with h;subst h;rfl)|cases h
 of:∀x,x.e=u→∃l,x=K l:=by intro x h;cases x<;>first|exact ⟨_,rfl⟩|(simp [LX.e] at h)
def dL{α :Type}(g:LX→Option (List α)):PV→Option (List α)
 | .lst _ x=>g x
 | .val (.slice none 0 0)=>some []
 |_=>none
def oW{α :Type}(K:List α→LX){g:LX→Option (List α)}{e sz:Nat} [k:TL K g e sz]:CD (List α):=⟨dL g,fun x=> .lst false (K x),fun {p a} h=>(by
 unfold dL at h
 split at h
 ·rw [k.gk _ _ h];exact .view _
 ·injection h with h;subst h;exact .nil false _ (k.len _)
 ·cases h),fun _=>rfl⟩
structure RF (α :Type) where
 d:List PV→Option α
 w: α→List PV
 le:∀r a,d r=some a→I8 r (w a)
 fl:∀a,T5 (w a)=true
def CD.o{α :Type}(c:CD α):RF α :=⟨fun
 | [p]=>c.d p
 |_=>none,fun a=> [c.w a],fun r a h=>(by
 split at h
 ·exact .cons (c.le h) .nil
 ·cases h),fun a=>by simp only [T5,c.fl]⟩
def CD.c{α β :Type}(c:CD α)(f:RF β):RF (α×β):=⟨fun
 |p::r=>match c.d p,f.d r with
  |some a,some b=>some (a,b)
  |_,_=>none
 |_=>none,fun a=>c.w a.1::f.w a.2,fun r a h=>(by
 split at h
 ·split at h
  ·rename_i h1 h2
   injection h with h;subst h
   exact .cons (c.le h1) (f.le _ _ h2)
  ·cases h
 ·cases h),fun a=>by simp only [T5,c.fl,f.fl]⟩
def RF.to{α β :Type}(f:RF α)(g: α→β)(w: β→List PV)(h:∀a,w (g a)=f.w a:=by intro a;rfl)(h2:∀a,T5 (w a)=true:=by intro a;rfl):RF β :=⟨fun r=>match f.d r with
 |some a=>some (g a)
 |none=>none,w,fun r a hh=>(by
 split at hh
 ·rename_i h1
  injection hh with hh;subst hh
  rw [h];exact f.le _ _ h1
 ·cases hh),h2⟩
instance:TL LX.t3 LX.g3 3 1:= {}
instance:TL LX.t4 LX.g4 4 1:= {}
instance:TL LX.t9 LX.g9 9 1:= {}
instance:TL LX.t23 LX.g23 23 1:= {}
instance:TL LX.t32 LX.g32 32 13:= {}
instance:TL LX.t38 LX.g38 38 4:= {}
instance:TL LX.t39 LX.g39 39 1:= {}
instance:TL LX.t41 LX.g41 41 2:= {}
instance:TL LX.t52 LX.g52 52 3:= {}
instance:TL LX.t55 LX.g55 55 4:= {}
instance:TL LX.t68 LX.g68 68 21:= {}
instance:TL LX.t139 LX.g139 139 17:= {}
instance:TL LX.t146 LX.g146 146 3:= {}
instance:TL LX.t150 LX.g150 150 3:= {}
instance:TL LX.t156 LX.g156 156 5:= {}
instance:TL LX.t162 LX.g162 162 3:= {}
instance:TL LX.t163 LX.g163 163 2:= {}
instance:TL LX.t184 LX.g184 184 2:= {}
instance:TL LX.t186 LX.g186 186 5:= {}
instance:TL LX.t196 LX.g196 196 2:= {}
instance:TL LX.t202 LX.g202 202 3:= {}
instance:TL LX.t205 LX.g205 205 3:= {}
def Ak(x:Ab):List PV:= [.val (.string x.Name),.lst false (.t52 x.Vars),.lst false (.t139 x.Resources),.lst false (.t146 x.Stores),.lst false (.t150 x.Belts),.lst false (.t9 x.Queues),.lst false (.t9 x.Streams),.lst false (.t9 x.Tallies),.lst false (.t9 x.Levels),.lst false (.t9 x.Counts),.lst false (.t55 x.Routines),.lst false (.t156 x.Starts),.lst false (.t202 x.Laws)]
def Eg:RF Ab:=RF.to (oT.c ((oW LX.t52).c ((oW LX.t139).c ((oW LX.t146).c ((oW LX.t150).c ((oW LX.t9).c ((oW LX.t9).c ((oW LX.t9).c ((oW LX.t9).c ((oW LX.t9).c ((oW LX.t55).c ((oW LX.t156).c ((oW LX.t202).o))))))))))))) (fun(a0,a1,a2,a3,a4,a5,a6,a7,a8,a9,a10,a11,a12)=> .mk a0 a1 a2 a3 a4 a5 a6 a7 a8 a9 a10 a11 a12) Ak
def Ht(x:Ae):List PV:= [.lst false (.t52 x.Params),.lst false (.t41 x.Locals),.val (.string x.Site.Name),.lst false (.t52 x.Site.Vars),.lst false (.t139 x.Site.Resources),.lst false (.t146 x.Site.Stores),.lst false (.t150 x.Site.Belts),.lst false (.t9 x.Site.Queues),.lst false (.t9 x.Site.Streams),.lst false (.t9 x.Site.Tallies),.lst false (.t9 x.Site.Levels),.lst false (.t9 x.Site.Counts),.lst false (.t55 x.Site.Routines),.lst false (.t156 x.Site.Starts),.lst false (.t202 x.Site.Laws)]
def j5:RF Ae:=RF.to ((oW LX.t52).c ((oW LX.t41).c (oT.c ((oW LX.t52).c ((oW LX.t139).c ((oW LX.t146).c ((oW LX.t150).c ((oW LX.t9).c ((oW LX.t9).c ((oW LX.t9).c ((oW LX.t9).c ((oW LX.t9).c ((oW LX.t55).c ((oW LX.t156).c ((oW LX.t202).o))))))))))))))) (fun(a0,a1,a2,a3,a4,a5,a6,a7,a8,a9,a10,a11,a12,a13,a14)=> .mk a0 a1 (.mk a2 a3 a4 a5 a6 a7 a8 a9 a10 a11 a12 a13 a14)) Ht
def Bf(x:Aa):List PV:= [.val (.int .i64 x.Op),.val (.string x.Name),.val (.int .i64 x.N),.lst false (.t38 x.Kids)]
def Jh:RF Aa:=RF.to ((oI .i64).c (oT.c ((oI .i64).c ((oW LX.t38).o)))) (fun(a0,a1,a2,a3)=> .mk a0 a1 a2 a3) Bf
def Jb(x:Ai):List PV:= [.val (.string x.Name),.val (.int .i64 x.Type_)]
def J4:RF Ai:=RF.to (oT.c ((oI .i64).o)) (fun(a0,a1)=> .mk a0 a1) Jb
def Se(x:Aw):List PV:= [.val (.string x.Name),.val (.int .i64 x.Type_),.val (.int .i64 x.N)]
def J6:RF Aw:=RF.to (oT.c ((oI .i64).c ((oI .i64).o))) (fun(a0,a1,a2)=> .mk a0 a1 a2) Se
def Om(x:Ay):List PV:= [.val (.string x.Name),.lst false (.t41 x.Params),.lst false (.t41 x.Locals),.lst false (.t68 x.Body)]
def Io:RF Ay:=RF.to (oT.c ((oW LX.t41).c ((oW LX.t41).c ((oW LX.t68).o)))) (fun(a0,a1,a2,a3)=> .mk a0 a1 a2 a3) Om
def Jc(x:Vn):List PV:= [.val (.string x.Name),.lst false (.t52 x.Params),.lst false (.t32 x.Sites),.lst false (.t162 x.Links)]
def Z6(x:I9):List PV:= [.val (.int .i64 x.Op),.val (.int .i64 x.A),.val (.int .i64 x.B),.val (.int .i64 x.N),.lst false (.t3 x.Values),.lst false (.t3 x.Weights)]
def O2(x:Af):List PV:= [.val (.int .i64 x.Op),.val (.string x.Name),.val (.string x.Of),.val (.int .i64 x.E.Op),.val (.string x.E.Name),.val (.int .i64 x.E.N),.lst false (.t38 x.E.Kids),.val (.int .i64 x.F.Op),.val (.string x.F.Name),.val (.int .i64 x.F.N),.lst false (.t38 x.F.Kids),.lst false (.t38 x.Args),.val (.int .i64 x.Dist.Op),.val (.int .i64 x.Dist.A),.val (.int .i64 x.Dist.B),.val (.int .i64 x.Dist.N),.lst false (.t3 x.Dist.Values),.lst false (.t3 x.Dist.Weights),.val (.bool x.Flag),.lst false (.t68 x.Body),.lst false (.t68 x.Else)]
def K0:RF Af:=RF.to ((oI .i64).c (oT.c (oT.c ((oI .i64).c (oT.c ((oI .i64).c ((oW LX.t38).c ((oI .i64).c (oT.c ((oI .i64).c ((oW LX.t38).c ((oW LX.t38).c ((oI .i64).c ((oI .i64).c ((oI .i64).c ((oI .i64).c ((oW LX.t3).c ((oW LX.t3).c (oB.c ((oW LX.t68).c ((oW LX.t68).o))))))))))))))))))))) (fun(a0,a1,a2,a3,a4,a5,a6,a7,a8,a9,a10,a11,a12,a13,a14,a15,a16,a17,a18,a19,a20)=> .mk a0 a1 a2 (.mk a3 a4 a5 a6) (.mk a7 a8 a9 a10) a11 (.mk a12 a13 a14 a15 a16 a17) a18 a19 a20) O2
def Ye(x:Ah):List PV:= [.val (.bool x.u_code)]
def Xi:RF Ah:=RF.to (oB.o) (fun a0=> .mk a0) Ye
def Yd(x:Ny):List PV:= [.val (.string x.Stream),.val (.int .i64 x.Up.Op),.val (.int .i64 x.Up.A),.val (.int .i64 x.Up.B),.val (.int .i64 x.Up.N),.lst false (.t3 x.Up.Values),.lst false (.t3 x.Up.Weights),.val (.int .i64 x.Down.Op),.val (.int .i64 x.Down.A),.val (.int .i64 x.Down.B),.val (.int .i64 x.Down.N),.lst false (.t3 x.Down.Values),.lst false (.t3 x.Down.Weights)]
def Kg(x:Aj):List PV:= [.val (.string x.Name),.val (.int .i64 x.Units),.lst false (.t196 x.Shift),.val (.int .i64 x.Cycle),.val (.string x.Fault.Stream),.val (.int .i64 x.Fault.Up.Op),.val (.int .i64 x.Fault.Up.A),.val (.int .i64 x.Fault.Up.B),.val (.int .i64 x.Fault.Up.N),.lst false (.t3 x.Fault.Up.Values),.lst false (.t3 x.Fault.Up.Weights),.val (.int .i64 x.Fault.Down.Op),.val (.int .i64 x.Fault.Down.A),.val (.int .i64 x.Fault.Down.B),.val (.int .i64 x.Fault.Down.N),.lst false (.t3 x.Fault.Down.Values),.lst false (.t3 x.Fault.Down.Weights)]
def Dt:RF Aj:=RF.to (oT.c ((oI .i64).c ((oW LX.t196).c ((oI .i64).c (oT.c ((oI .i64).c ((oI .i64).c ((oI .i64).c ((oI .i64).c ((oW LX.t3).c ((oW LX.t3).c ((oI .i64).c ((oI .i64).c ((oI .i64).c ((oI .i64).c ((oW LX.t3).c ((oW LX.t3).o))))))))))))))))) (fun(a0,a1,a2,a3,a4,a5,a6,a7,a8,a9,a10,a11,a12,a13,a14,a15,a16)=> .mk a0 a1 a2 a3 (.mk a4 (.mk a5 a6 a7 a8 a9 a10) (.mk a11 a12 a13 a14 a15 a16))) Kg
def Mk(x:Ao):List PV:= [.val (.string x.Name),.val (.int .i64 x.Room),.val (.int .i64 x.Policy)]
def Ge:RF Ao:=RF.to (oT.c ((oI .i64).c ((oI .i64).o))) (fun(a0,a1,a2)=> .mk a0 a1 a2) Mk
def Nh(x:Au):List PV:= [.val (.string x.Name),.val (.int .i64 x.Length),.val (.int .i64 x.Step)]
def Hf:RF Au:=RF.to (oT.c ((oI .i64).c ((oI .i64).o))) (fun(a0,a1,a2)=> .mk a0 a1 a2) Nh
def Sd(x:Ix):List PV:= [.val (.string x.Routine),.lst false (.t3 x.Args),.val (.int .i64 x.At),.val (.int .i64 x.Every),.val (.int .i64 x.Until)]
def J5:RF Ix:=RF.to (oT.c ((oW LX.t3).c ((oI .i64).c ((oI .i64).c ((oI .i64).o))))) (fun(a0,a1,a2,a3,a4)=> .mk a0 a1 a2 a3 a4) Sd
def Z7(x:M6):List PV:= [.val (.string x.From),.val (.string x.To),.val (.int .i64 x.Delay)]
def Kz:RF M6:=RF.to (oT.c (oT.c ((oI .i64).o))) (fun(a0,a1,a2)=> .mk a0 a1 a2) Z7
def Rg(x:Hx):List PV:= [.val (.string x.a0),.val (.string x.a1)]
def Es:RF Hx:=RF.to (oT.c oT.o) (fun(a0,a1)=> .mk a0 a1) Rg
def Wz(x:Lu):List PV:= [.val (.bool x.u_is),.val (.string x.u_name)]
def I6:RF Lu:=RF.to (oB.c oT.o) (fun(a0,a1)=> .mk a0 a1) Wz
def Aae(x:Te):List PV:= [.val (.bool x.u_is),.val (.int .i64 x.u_e.Op),.val (.string x.u_e.Name),.val (.int .i64 x.u_e.N),.lst false (.t38 x.u_e.Kids)]
def Mc:RF Te:=RF.to (oB.c ((oI .i64).c (oT.c ((oI .i64).c ((oW LX.t38).o))))) (fun(a0,a1,a2,a3,a4)=> .mk a0 (.mk a1 a2 a3 a4)) Aae
def Qa(x:Hi):List PV:= [.val (.int .i64 x.At),.val (.int .i64 x.Units)]
def I7:RF Hi:=RF.to ((oI .i64).c ((oI .i64).o)) (fun(a0,a1)=> .mk a0 a1) Qa
def Vt(x:Ly):List PV:= [.val (.string x.Name),.lst false (.t205 x.Terms),.val (.int .i64 x.Total)]
def Md:RF Ly:=RF.to (oT.c ((oW LX.t205).c ((oI .i64).o))) (fun(a0,a1,a2)=> .mk a0 a1 a2) Vt
def Tx(x:Kf):List PV:= [.val (.int .i64 x.Coef),.val (.string x.What),.val (.string x.Name)]
def K1:RF Kf:=RF.to ((oI .i64).c (oT.c oT.o)) (fun(a0,a1,a2)=> .mk a0 a1 a2) Tx
def lT{α :Type}(K:List α→LX)(f:RF α)(rs:List (List PV)):Option LX:=Ju K (Aac f.d rs)
def sT{α :Type} [Inhabited α](K:List α→LX)(f:RF α)(l:List α)(i off:Nat)(c:List PV):Option LX:=Air (Ua (f.w (l.getD i default)) (off+c.length)) (fun a=>K (l.set i a)) (f.d (Da (f.w (l.getD i default)) off c))
def RF.r{α :Type} [Inhabited α](f:RF α)(l:List α)(i:Nat):List PV:=f.w (l.getD i default)
def LX.row(x:LX)(i:Nat):List PV:=match x with
 | .t3 l=>(oI .i64).o.r l i
 | .t4 l=>oB.o.r l i
 | .t9 l=>oT.o.r l i
 | .t23 l=>(oW LX.t41).o.r l i
 | .t32 l=>Eg.r l i
 | .t38 l=>Jh.r l i
 | .t39 l=>(oI .i64).o.r l i
 | .t41 l=>J4.r l i
 | .t52 l=>J6.r l i
 | .t55 l=>Io.r l i
 | .t68 l=>K0.r l i
 | .t139 l=>Dt.r l i
 | .t146 l=>Ge.r l i
 | .t150 l=>Hf.r l i
 | .t156 l=>J5.r l i
 | .t162 l=>Kz.r l i
 | .t163 l=>Es.r l i
 | .t184 l=>I6.r l i
 | .t186 l=>Mc.r l i
 | .t196 l=>I7.r l i
 | .t202 l=>Md.r l i
 | .t205 l=>K1.r l i
def LX.set(x:LX)(i off:Nat)(c:List PV):Option LX:=match x with
 | .t3 l=>sT .t3 (oI .i64).o l i off c
 | .t4 l=>sT .t4 oB.o l i off c
 | .t9 l=>sT .t9 oT.o l i off c
 | .t23 l=>sT .t23 (oW LX.t41).o l i off c
 | .t32 l=>sT .t32 Eg l i off c
 | .t38 l=>sT .t38 Jh l i off c
 | .t39 l=>sT .t39 (oI .i64).o l i off c
 | .t41 l=>sT .t41 J4 l i off c
 | .t52 l=>sT .t52 J6 l i off c
 | .t55 l=>sT .t55 Io l i off c
 | .t68 l=>sT .t68 K0 l i off c
 | .t139 l=>sT .t139 Dt l i off c
 | .t146 l=>sT .t146 Ge l i off c
 | .t150 l=>sT .t150 Hf l i off c
 | .t156 l=>sT .t156 J5 l i off c
 | .t162 l=>sT .t162 Kz l i off c
 | .t163 l=>sT .t163 Es l i off c
 | .t184 l=>sT .t184 I6 l i off c
 | .t186 l=>sT .t186 Mc l i off c
 | .t196 l=>sT .t196 I7 l i off c
 | .t202 l=>sT .t202 Md l i off c
 | .t205 l=>sT .t205 K1 l i off c
def tbl:List (Nat×(List (List PV)→Option LX)):= [(3,lT .t3 (oI .i64).o),(4,lT .t4 oB.o),(9,lT .t9 oT.o),(23,lT .t23 (oW LX.t41).o),(32,lT .t32 Eg),(38,lT .t38 Jh),(39,lT .t39 (oI .i64).o),(41,lT .t41 J4),(52,lT .t52 J6),(55,lT .t55 Io),(68,lT .t68 K0),(139,lT .t139 Dt),(146,lT .t146 Ge),(150,lT .t150 Hf),(156,lT .t156 J5),(162,lT .t162 Kz),(163,lT .t163 Es),(184,lT .t184 I6),(186,lT .t186 Mc),(196,lT .t196 I7),(202,lT .t202 Md),(205,lT .t205 K1)]
def lkT:List (Nat×(List (List PV)→Option LX))→Nat→List (List PV)→Option LX
 | [],_,_=>none
 |(a,f)::r,e,rs=>match Nat.beq e a with
  |true=>f rs
  |false=>lkT r e rs
def LX.lit(e:Nat)(rs:List (List PV)):Option LX:=lkT tbl e rs
def LX.nil(e:Nat):Option LX:=lkT tbl e []
class TG {α :Type} [Inhabited α] (K:List α→LX) (f:outParam (RF α)):Prop where
 row:∀l i,(K l).row i=f.w (l.getD i default):=by intro l i;rfl
 sz:∀a l,(f.w a).length=(K l).sz:=by intro a l;rfl
instance:TG LX.t3 (oI .i64).o:= {}
instance:TG LX.t4 oB.o:= {}
instance:TG LX.t9 oT.o:= {}
instance:TG LX.t23 (oW LX.t41).o:= {}
instance:TG LX.t32 Eg:= {}
instance:TG LX.t38 Jh:= {}
instance:TG LX.t39 (oI .i64).o:= {}
instance:TG LX.t41 J4:= {}
instance:TG LX.t52 J6:= {}
instance:TG LX.t55 Io:= {}
instance:TG LX.t68 K0:= {}
instance:TG LX.t139 Dt:= {}
instance:TG LX.t146 Ge:= {}
instance:TG LX.t150 Hf:= {}
instance:TG LX.t156 J5:= {}
instance:TG LX.t162 Kz:= {}
instance:TG LX.t163 Es:= {}
instance:TG LX.t184 I6:= {}
instance:TG LX.t186 Mc:= {}
instance:TG LX.t196 I7:= {}
instance:TG LX.t202 Md:= {}
instance:TG LX.t205 K1:= {}
def LX.find(x:LX)(c:List PV):Option (Option Nat):=match x,c with
 | .t3 l,[.val (.int k0 a0)]=>match decide (k0= .i64) with
  |true=>some (l.findIdx? fun b=>a0 == b)
  |_=>none
 | .t4 l,[.val (.bool a0)]=>some (l.findIdx? fun b=>a0 == b)
 | .t9 l,[.val (.string a0)]=>some (l.findIdx? fun b=>a0 == b)
 | .t39 l,[.val (.int k0 a0)]=>match decide (k0= .i64) with
  |true=>some (l.findIdx? fun b=>a0 == b)
  |_=>none
 | .t163 l,[.val (.string a0),.val (.string a1)]=>some (l.findIdx? fun b=>(a0 == b.a0 && (a1 == b.a1)))
 |_,_=>none
def LX.push(x:LX)(c:List PV):Option LX:=match LX.lit x.e [c] with
 |some y=>x.cat y
 |none=>none
theorem d6{α :Type} [Inhabited α](l m:List α)(i:Nat)(h:i < l.length):(l++m).getD i default=l.getD i default:=by
 simp [List.getD,List.getElem?_append_left h]
theorem d7{α :Type} [Inhabited α](l m:List α)(i:Nat):(l++m).getD (l.length+i) default=m.getD i default:=by
 simp [List.getD,List.getElem?_append_right]
theorem Abu{α :Type} [Inhabited α](l:List α)(a b i:Nat)(h1:b≤l.length)(h2:i < b - a):((l.take b).drop a).getD i default=l.getD (a+i) default:=by
 simp only [List.getD_eq_getElem?_getD,List.getElem?_drop,List.getElem?_take]
 rw [if_pos (by omega)]
theorem Abt{α :Type} [Inhabited α](n i:Nat)(a: α)(h:i < n):(List.replicate n a).getD i default=a:=by
 simp [List.getD_eq_getElem?_getD,List.getElem?_replicate,h]
theorem Yn{α :Type} [Inhabited α](l:List α)(i:Nat)(a: α)(h:i < l.length):(l.set i a).getD i default=a:=by
 simp [List.getD_eq_getElem?_getD,h]
theorem Yp{α :Type} [Inhabited α](l:List α)(i j:Nat)(a: α)(h:j≠i):(l.set i a).getD j default=l.getD j default:=by
 simp [List.getD_eq_getElem?_getD,List.getElem?_set_ne (fun e=>h e.symm)]
theorem J1{α :Type} [Inhabited α](l:List α)(i:Nat)(h:i < l.length):l.getD i default=l[i]:=by
 simp [List.getD_eq_getElem?_getD,h]
theorem f5(l:List PV):∀n,Ua l n=true↔n≤l.length:=by
 induction l with
 |nil=>intro n;cases n<;>simp [Ua]
 |cons p r ih=>intro n;cases n<;>simp [Ua,ih]
section
variable {α :Type} [Inhabited α] {K:List α→LX} {f:RF α} {g:LX→Option (List α)} {e sz:Nat}
theorem Akt [q:TG K f](l:List α)(i:Nat):∀p∈(K l).row i,p.flat=true:=V0 _ (by rw [q.row];exact f.fl _)
theorem Aku [q:TG K f](l:List α)(i:Nat):((K l).row i).length=(K l).sz:=by rw [q.row];exact q.sz _ _
def Aa9(p:Nat×(List (List PV)→Option LX)):Prop:=∀rs x,p.2 rs=some x→x.e=p.1∧x.len=rs.length∧∀(i:Nat) (r:List PV),rs[i]? =some r→I8 r (x.row i)
theorem Akj [k:TL K g e sz] [q:TG K f]:Aa9 (e,lT K f):=by
 intro rs x h
 simp only [lT,Ju] at h
 cases hl:Aac f.d rs with
 |none=>rw [hl] at h;cases h
 |some l=>
  rw [hl] at h
  injection h with h;subst h
  obtain ⟨q1,q2⟩:=Vs f.le rs l hl
  exact ⟨k.e _,by rw [k.len];exact q1,fun i r hr=>by rw [q.row];exact q2 i r hr⟩
theorem Akc [k:TL K g e sz] [q:TG K f]{y z:LX}{l:List α}(h:Ju (fun m=>K (l++m)) (g y)=some z):y.e=(K l).e∧z.e=(K l).e∧y.sz=(K l).sz∧z.sz=(K l).sz∧z.len=(K l).len+y.len∧(∀i,i < (K l).len→z.row i=(K l).row i)∧(∀i,z.row ((K l).len+i)=y.row i):=by
 cases hg:g y with
 |none=>rw [hg] at h;cases h
 |some m=>
  rw [hg] at h
  injection h with h;subst h
  rw [k.gk y m hg]
  simp only [k.e,k.sz,k.len,q.row,List.length_append,true_and]
  exact ⟨fun i hi=>by rw [d6 l m i hi],fun i=>by rw [d7]⟩
theorem Ak8 [k:TL K g e sz] [q:TG K f](l:List α)(a b:Nat)(h:b≤(K l).len):(K ((l.take b).drop a)).e=(K l).e∧(K ((l.take b).drop a)).sz=(K l).sz∧(K ((l.take b).drop a)).len=b - a∧∀i,i < b - a→(K ((l.take b).drop a)).row i=(K l).row (a+i):=by
 simp only [k.e,k.sz,k.len,q.row,true_and] at h ⊢
 exact ⟨by simp;omega,fun i hi=>by rw [Abu l a b i h hi]⟩
theorem Aks [k:TL K g e sz] [q:TG K f](l:List α)(n:Nat):(K (List.replicate n (l.getD 0 default))).e=(K l).e∧(K (List.replicate n (l.getD 0 default))).sz=(K l).sz∧(K (List.replicate n (l.getD 0 default))).len=n∧∀i,i < n→(K (List.replicate n (l.getD 0 default))).row i=(K l).row 0:=by
 simp only [k.e,k.sz,k.len,q.row,true_and]
 exact ⟨List.length_replicate,fun i hi=>by rw [Abt n i _ hi]⟩
theorem Ak7 [k:TL K g e sz] [q:TG K f]{i off:Nat}{c:List PV}{l:List α}{y:LX}(h:sT K f l i off c=some y):y.e=(K l).e∧y.sz=(K l).sz∧y.len=(K l).len∧off+c.length≤(K l).sz∧(i < (K l).len→I8 (Da ((K l).row i) off c) (y.row i))∧∀j,j≠i→y.row j=(K l).row j:=by
 unfold sT Air at h
 split at h
 ·rename_i a h1 h2
  injection h with h;subst h
  simp only [k.e,k.sz,k.len,q.row,true_and]
  refine ⟨List.length_set,by rw [←k.sz l,←q.sz (l.getD i default) l];exact (f5 _ _).1 h1,fun hi=> ?_,fun j hj=> ?_⟩
  ·rw [Yn l i a hi]
   exact f.le _ _ h2
  ·rw [Yp l i j a hj]
 ·cases h
end
theorem LX.row_len(x:LX)(i:Nat):(x.row i).length=x.sz:=by cases x<;>exact Aku _ _
theorem LX.row_flat(x:LX)(i:Nat):∀p∈x.row i,p.flat=true:=by cases x<;>exact Akt _ _
def Af9:List (Nat×(List (List PV)→Option LX))→Prop
 | []=>True
 |p::r=>Aa9 p∧Af9 r
theorem Ajl:Af9 tbl:=by
 unfold tbl
 repeat (first|exact trivial|refine ⟨Akj,?_⟩)
theorem Acl:∀(l:List (Nat×(List (List PV)→Option LX))),Af9 l→∀e,Aa9 (e,lkT l e)
 | [],_,e,rs,x,h=>by cases h
 |(a,f)::r,hl,e,rs,x,h=>by
  change (match Nat.beq e a with
   |true=>f rs
   |false=>lkT r e rs)=some x at h
  cases hb:Nat.beq e a with
  |true=>
   rw [hb] at h
   rw [Nat.eq_of_beq_eq_true hb]
   exact hl.1 rs x h
  |false=>
   rw [hb] at h
   exact Acl r hl.2 e rs x h
theorem LX.lit_spec(e:Nat)(rs:List (List PV))(x:LX)(h:LX.lit e rs=some x):x.e=e∧x.len=rs.length∧∀(i:Nat) (r:List PV),rs[i]? =some r→I8 r (x.row i):=Acl tbl Ajl e rs x h
theorem LX.nil_spec(e:Nat)(x:LX)(h:LX.nil e=some x):x.e=e∧x.len=0:=⟨(LX.lit_spec e [] x h).1,(LX.lit_spec e [] x h).2.1⟩
theorem LX.cat_spec(x y z:LX)(h:x.cat y=some z):y.e=x.e∧z.e=x.e∧y.sz=x.sz∧z.sz=x.sz∧z.len=x.len+y.len∧(∀i,i < x.len→z.row i=x.row i)∧(∀i,z.row (x.len+i)=y.row i):=by cases x<;>exact Akc h
theorem LX.sub_spec(x:LX)(a b:Nat)(h:b≤x.len):(x.sub a b).e=x.e∧(x.sub a b).sz=x.sz∧(x.sub a b).len=b - a∧∀i,i < b - a→(x.sub a b).row i=x.row (a+i):=by cases x<;>exact Ak8 _ a b h
theorem LX.rep_spec(x:LX)(n:Nat):(x.rep n).e=x.e∧(x.rep n).sz=x.sz∧(x.rep n).len=n∧∀i,i < n→(x.rep n).row i=x.row 0:=by cases x<;>exact Aks _ n
theorem LX.set_spec(x:LX)(i off:Nat)(c:List PV)(y:LX)(h:LX.set x i off c=some y):y.e=x.e∧y.sz=x.sz∧y.len=x.len∧off+c.length≤x.sz∧(i < x.len→I8 (Da (x.row i) off c) (y.row i))∧∀j,j≠i→y.row j=x.row j:=by cases x<;>exact Ak7 h
theorem Kh{α :Type} [Inhabited α]{l:List α}{p: α→Bool}{r:Option Nat}(h:l.findIdx? p=r):
  (r=none→∀i,i < l.length→p (l.getD i default)=false)∧(∀i,r=some i→i < l.length∧p (l.getD i default)=true∧∀j,j < i→p (l.getD j default)=false):=by
 subst h
 refine ⟨fun h i hi=> ?_,fun i h=> ?_⟩
 ·have:=List.findIdx?_eq_none_iff.1 h (l.getD i default) (by rw [J1 l i hi];exact List.getElem_mem hi)
  simpa using this
 ·obtain ⟨h1,h2,h3⟩:=List.findIdx?_eq_some_iff_getElem.1 h
  refine ⟨h1,by rw [J1 l i h1];exact h2,fun j hj=> ?_⟩
  rw [J1 l j (by omega)]
  simpa using h3 j hj
theorem LX.find_spec(x:LX)(c:List PV)(r:Option Nat)(h:LX.find x c=some r):(r=none→∀i,i < x.len→K2 c (x.row i)=some false)∧(∀i,r=some i→i < x.len∧K2 c (x.row i)=some true∧∀j,j < i→K2 c (x.row j)=some false):=by
 unfold LX.find at h
 split at h
 ·rename_i l k0 a0
  split at h
  ·rename_i hk0
   have e0:=of_decide_eq_true hk0
   subst e0
   injection h with h;subst h
   obtain ⟨s1,s2⟩:=Kh (rfl:l.findIdx? (fun b=>a0 == b)=_)
   have key:∀i b,(a0 == (l.getD i default))=b→K2 [.val (.int .i64 a0)] ((LX.t3 l).row i)=some b:=fun i b hb=>congrArg some hb
   exact ⟨fun hr i hi=>key _ _ (s1 hr i hi),fun i hr=>⟨(s2 i hr).1,key _ _ (s2 i hr).2.1,fun j hj=>key _ _ ((s2 i hr).2.2 j hj)⟩⟩
  ·cases h
 ·rename_i l a0
  injection h with h;subst h
  obtain ⟨s1,s2⟩:=Kh (rfl:l.findIdx? (fun b=>a0 == b)=_)
  have key:∀i b,(a0 == (l.getD i default))=b→K2 [.val (.bool a0)] ((LX.t4 l).row i)=some b:=fun i b hb=>congrArg some hb
  exact ⟨fun hr i hi=>key _ _ (s1 hr i hi),fun i hr=>⟨(s2 i hr).1,key _ _ (s2 i hr).2.1,fun j hj=>key _ _ ((s2 i hr).2.2 j hj)⟩⟩
 ·rename_i l a0
  injection h with h;subst h
  obtain ⟨s1,s2⟩:=Kh (rfl:l.findIdx? (fun b=>a0 == b)=_)
  have key:∀i b,(a0 == (l.getD i default))=b→K2 [.val (.string a0)] ((LX.t9 l).row i)=some b:=fun i b hb=>congrArg some hb
  exact ⟨fun hr i hi=>key _ _ (s1 hr i hi),fun i hr=>⟨(s2 i hr).1,key _ _ (s2 i hr).2.1,fun j hj=>key _ _ ((s2 i hr).2.2 j hj)⟩⟩
 ·rename_i l k0 a0
  split at h
  ·rename_i hk0
   have e0:=of_decide_eq_true hk0
   subst e0
   injection h with h;subst h
   obtain ⟨s1,s2⟩:=Kh (rfl:l.findIdx? (fun b=>a0 == b)=_)
   have key:∀i b,(a0 == (l.getD i default))=b→K2 [.val (.int .i64 a0)] ((LX.t39 l).row i)=some b:=fun i b hb=>congrArg some hb
   exact ⟨fun hr i hi=>key _ _ (s1 hr i hi),fun i hr=>⟨(s2 i hr).1,key _ _ (s2 i hr).2.1,fun j hj=>key _ _ ((s2 i hr).2.2 j hj)⟩⟩
  ·cases h
 ·rename_i l a0 a1
  injection h with h;subst h
  obtain ⟨s1,s2⟩:=Kh (rfl:l.findIdx? (fun b=>(a0 == b.a0 && (a1 == b.a1)))=_)
  have key:∀i b,((a0 == (l.getD i default).a0 && (a1 == (l.getD i default).a1)))=b→K2 [.val (.string a0),.val (.string a1)] ((LX.t163 l).row i)=some b:=fun i b hb=>congrArg some hb
  exact ⟨fun hr i hi=>key _ _ (s1 hr i hi),fun i hr=>⟨(s2 i hr).1,key _ _ (s2 i hr).2.1,fun j hj=>key _ _ ((s2 i hr).2.2 j hj)⟩⟩
 ·cases h
end Go.Proofs.YtmimkinjcfekmaaGreat.Ev
