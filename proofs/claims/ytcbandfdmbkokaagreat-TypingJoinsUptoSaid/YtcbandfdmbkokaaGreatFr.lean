/-  Rows of data, cell by cell; what a row of cells reads as. -/
import Derived.Test.YtcbandfdmbkokaaGreatFp
namespace Go.Proofs.YtcbandfdmbkokaaGreat.Ev
open Go
set_option linter.unusedVariables false
set_option linter.unusedSimpArgs false
set_option linter.unnecessarySimpa false
def Jt(l:List PV)(n:Nat):Bool:=match l,n with
 |_,0=>true
 |_::r,n+1=>Jt r n
 |_,_=>false
def Ix(k:IntKind):PV→Option Int
 | .val (.int k' a)=>match decide (k'=k) with
  |true=>some a
  |false=>none
 |_=>none
def Qe:PV→Option Bool
 | .val (.bool a)=>some a
 |_=>none
def Rv:PV→Option ByteArray
 | .val (.string a)=>some a
 |_=>none
inductive Cs:List PV→List PV→Prop
 |nil:Cs [] []
 |cons {p q:PV} {r s:List PV} (h:PV.Le p q) (hr:Cs r s):Cs (p::r) (q::s)
theorem Ck{k:IntKind}{p:PV}{a:Int}(h:Ix k p=some a):PV.Le p (.val (.int k a)):=by
 unfold Ix at h
 split at h
 ·split at h
  ·rename_i hk
   have:=of_decide_eq_true hk
   subst this
   injection h with h;subst h;exact .view _
  ·cases h
 ·cases h
theorem E8{p:PV}{a:Bool}(h:Qe p=some a):PV.Le p (.val (.bool a)):=by
 unfold Qe at h
 split at h
 ·injection h with h;subst h;exact .view _
 ·cases h
theorem Dy{p:PV}{a:ByteArray}(h:Rv p=some a):PV.Le p (.val (.string a)):=by
 unfold Rv at h
 split at h
 ·injection h with h;subst h;exact .view _
 ·cases h
def U5{α :Type}(d:List PV→Option α):List (List PV)→Option (List α)
 | []=>some []
 |r::rs=>match d r,U5 d rs with
  |some a,some l=>some (a::l)
  |_,_=>none
theorem Apu{α :Type} [Inhabited α]{d:List PV→Option α}{row: α→List PV}(hd:∀r a,d r=some a→Cs r (row a)):∀(rs:List (List PV)) (l:List α),U5 d rs=some l→
  l.length=rs.length∧∀(i:Nat) (r:List PV),rs[i]? =some r→Cs r (row (l.getD i default))
 | [],l,h=>by
  simp only [U5,Option.some.injEq] at h
  subst h
  exact ⟨rfl,fun i r hr=>by simp at hr⟩
 |r::rs,l,h=>by
  simp only [U5] at h
  split at h
  ·rename_i a m h1 h2
   injection h with h
   subst h
   obtain ⟨q1,q2⟩:=Apu hd rs m h2
   refine ⟨by simp [q1],fun i x hx=> ?_⟩
   cases i with
   |zero=>simp at hx;subst hx;simpa using hd _ _ h1
   |succ i=>simpa using q2 i x (by simpa using hx)
  ·cases h
def A3k:List PV→Bool
 | []=>true
 |p::r=>match p.flat with
  |true=>A3k r
  |false=>false
theorem Ap5:∀(l:List PV),A3k l=true→∀p∈l,p.flat=true
 | [],_,p,h=>by cases h
 |q::r,h,p,hp=>by
  simp only [A3k] at h
  cases hq:q.flat with
  |false=>rw [hq] at h;cases h
  |true=>
   rw [hq] at h
   rcases List.mem_cons.1 hp with e|e
   ·subst e;exact hq
   ·exact Ap5 r h p e
def dl3:PV→Option (List Int)
 | .lst _ x=>x.g3
 | .val (.slice none 0 0)=>some []
 |_=>none
theorem W6{p:PV}{a:List Int}(h:dl3 p=some a):PV.Le p (.lst false (.t3 a)):=by
 unfold dl3 at h
 split at h
 ·rename_i o x
  cases x<;>simp only [LX.g3] at h<;>first|(injection h with h;subst h;exact .view _)|cases h
 ·injection h with h;subst h;exact .nil false _ rfl
 ·cases h
def dl9:PV→Option (List ByteArray)
 | .lst _ x=>x.g9
 | .val (.slice none 0 0)=>some []
 |_=>none
theorem Ol{p:PV}{a:List ByteArray}(h:dl9 p=some a):PV.Le p (.lst false (.t9 a)):=by
 unfold dl9 at h
 split at h
 ·rename_i o x
  cases x<;>simp only [LX.g9] at h<;>first|(injection h with h;subst h;exact .view _)|cases h
 ·injection h with h;subst h;exact .nil false _ rfl
 ·cases h
def A7t:PV→Option (List Ac)
 | .lst _ x=>x.g32
 | .val (.slice none 0 0)=>some []
 |_=>none
theorem Azr{p:PV}{a:List Ac}(h:A7t p=some a):PV.Le p (.lst false (.t32 a)):=by
 unfold A7t at h
 split at h
 ·rename_i o x
  cases x<;>simp only [LX.g32] at h<;>first|(injection h with h;subst h;exact .view _)|cases h
 ·injection h with h;subst h;exact .nil false _ rfl
 ·cases h
def Ain:PV→Option (List Aa)
 | .lst _ x=>x.g38
 | .val (.slice none 0 0)=>some []
 |_=>none
theorem V2{p:PV}{a:List Aa}(h:Ain p=some a):PV.Le p (.lst false (.t38 a)):=by
 unfold Ain at h
 split at h
 ·rename_i o x
  cases x<;>simp only [LX.g38] at h<;>first|(injection h with h;subst h;exact .view _)|cases h
 ·injection h with h;subst h;exact .nil false _ rfl
 ·cases h
def Bbr:PV→Option (List Int)
 | .lst _ x=>x.g41
 | .val (.slice none 0 0)=>some []
 |_=>none
theorem A7u{p:PV}{a:List Int}(h:Bbr p=some a):PV.Le p (.lst false (.t41 a)):=by
 unfold Bbr at h
 split at h
 ·rename_i o x
  cases x<;>simp only [LX.g41] at h<;>first|(injection h with h;subst h;exact .view _)|cases h
 ·injection h with h;subst h;exact .nil false _ rfl
 ·cases h
def Aoi:PV→Option (List Be)
 | .lst _ x=>x.g68
 | .val (.slice none 0 0)=>some []
 |_=>none
theorem Zt{p:PV}{a:List Be}(h:Aoi p=some a):PV.Le p (.lst false (.t68 a)):=by
 unfold Aoi at h
 split at h
 ·rename_i o x
  cases x<;>simp only [LX.g68] at h<;>first|(injection h with h;subst h;exact .view _)|cases h
 ·injection h with h;subst h;exact .nil false _ rfl
 ·cases h
def Ale:PV→Option (List Bp)
 | .lst _ x=>x.g72
 | .val (.slice none 0 0)=>some []
 |_=>none
theorem Xs{p:PV}{a:List Bp}(h:Ale p=some a):PV.Le p (.lst false (.t72 a)):=by
 unfold Ale at h
 split at h
 ·rename_i o x
  cases x<;>simp only [LX.g72] at h<;>first|(injection h with h;subst h;exact .view _)|cases h
 ·injection h with h;subst h;exact .nil false _ rfl
 ·cases h
def A12:PV→Option (List Bg)
 | .lst _ x=>x.g74
 | .val (.slice none 0 0)=>some []
 |_=>none
theorem Aki{p:PV}{a:List Bg}(h:A12 p=some a):PV.Le p (.lst false (.t74 a)):=by
 unfold A12 at h
 split at h
 ·rename_i o x
  cases x<;>simp only [LX.g74] at h<;>first|(injection h with h;subst h;exact .view _)|cases h
 ·injection h with h;subst h;exact .nil false _ rfl
 ·cases h
def Asl:PV→Option (List Ab)
 | .lst _ x=>x.g82
 | .val (.slice none 0 0)=>some []
 |_=>none
theorem t5{p:PV}{a:List Ab}(h:Asl p=some a):PV.Le p (.lst false (.t82 a)):=by
 unfold Asl at h
 split at h
 ·rename_i o x
  cases x<;>simp only [LX.g82] at h<;>first|(injection h with h;subst h;exact .view _)|cases h
 ·injection h with h;subst h;exact .nil false _ rfl
 ·cases h
def Apv:PV→Option (List Bf)
 | .lst _ x=>x.g149
 | .val (.slice none 0 0)=>some []
 |_=>none
theorem Aej{p:PV}{a:List Bf}(h:Apv p=some a):PV.Le p (.lst false (.t149 a)):=by
 unfold Apv at h
 split at h
 ·rename_i o x
  cases x<;>simp only [LX.g149] at h<;>first|(injection h with h;subst h;exact .view _)|cases h
 ·injection h with h;subst h;exact .nil false _ rfl
 ·cases h
def Apw:PV→Option (List Bx)
 | .lst _ x=>x.g156
 | .val (.slice none 0 0)=>some []
 |_=>none
theorem Aek{p:PV}{a:List Bx}(h:Apw p=some a):PV.Le p (.lst false (.t156 a)):=by
 unfold Apw at h
 split at h
 ·rename_i o x
  cases x<;>simp only [LX.g156] at h<;>first|(injection h with h;subst h;exact .view _)|cases h
 ·injection h with h;subst h;exact .nil false _ rfl
 ·cases h
def Apx:PV→Option (List B3)
 | .lst _ x=>x.g160
 | .val (.slice none 0 0)=>some []
 |_=>none
theorem Ael{p:PV}{a:List B3}(h:Apx p=some a):PV.Le p (.lst false (.t160 a)):=by
 unfold Apx at h
 split at h
 ·rename_i o x
  cases x<;>simp only [LX.g160] at h<;>first|(injection h with h;subst h;exact .view _)|cases h
 ·injection h with h;subst h;exact .nil false _ rfl
 ·cases h
def Apy:PV→Option (List Hg)
 | .lst _ x=>x.g166
 | .val (.slice none 0 0)=>some []
 |_=>none
theorem Aem{p:PV}{a:List Hg}(h:Apy p=some a):PV.Le p (.lst false (.t166 a)):=by
 unfold Apy at h
 split at h
 ·rename_i o x
  cases x<;>simp only [LX.g166] at h<;>first|(injection h with h;subst h;exact .view _)|cases h
 ·injection h with h;subst h;exact .nil false _ rfl
 ·cases h
def Azp:PV→Option (List Cq)
 | .lst _ x=>x.g172
 | .val (.slice none 0 0)=>some []
 |_=>none
theorem Av0{p:PV}{a:List Cq}(h:Azp p=some a):PV.Le p (.lst false (.t172 a)):=by
 unfold Azp at h
 split at h
 ·rename_i o x
  cases x<;>simp only [LX.g172] at h<;>first|(injection h with h;subst h;exact .view _)|cases h
 ·injection h with h;subst h;exact .nil false _ rfl
 ·cases h
def Apz:PV→Option (List Oh)
 | .lst _ x=>x.g184
 | .val (.slice none 0 0)=>some []
 |_=>none
theorem Aen{p:PV}{a:List Oh}(h:Apz p=some a):PV.Le p (.lst false (.t184 a)):=by
 unfold Apz at h
 split at h
 ·rename_i o x
  cases x<;>simp only [LX.g184] at h<;>first|(injection h with h;subst h;exact .view _)|cases h
 ·injection h with h;subst h;exact .nil false _ rfl
 ·cases h
def A3c:PV→Option (List F6)
 | .lst _ x=>x.g228
 | .val (.slice none 0 0)=>some []
 |_=>none
theorem A3d{p:PV}{a:List F6}(h:A3c p=some a):PV.Le p (.lst false (.t228 a)):=by
 unfold A3c at h
 split at h
 ·rename_i o x
  cases x<;>simp only [LX.g228] at h<;>first|(injection h with h;subst h;exact .view _)|cases h
 ·injection h with h;subst h;exact .nil false _ rfl
 ·cases h
def A3e:PV→Option (List Jz)
 | .lst _ x=>x.g234
 | .val (.slice none 0 0)=>some []
 |_=>none
theorem A3f{p:PV}{a:List Jz}(h:A3e p=some a):PV.Le p (.lst false (.t234 a)):=by
 unfold A3e at h
 split at h
 ·rename_i o x
  cases x<;>simp only [LX.g234] at h<;>first|(injection h with h;subst h;exact .view _)|cases h
 ·injection h with h;subst h;exact .nil false _ rfl
 ·cases h
def Axe(x:Int):List PV:= [.val (.int .i64 x)]
def A7q(r:List PV):Option Int:=match r with
 | [c0]=>match Ix .i64 c0 with
  |some a0=>some a0
  |_=>none
 |_=>none
theorem Azh(r:List PV)(x:Int)(h:A7q r=some x):Cs r (Axe x):=by
 unfold A7q at h
 split at h
 ·split at h
  ·rename_i h0
   injection h with h;subst h;exact (.cons (Ck h0) Cs.nil)
  ·cases h
 ·cases h
def A2g(x:Bool):List PV:= [.val (.bool x)]
def A7r(r:List PV):Option Bool:=match r with
 | [c0]=>match Qe c0 with
  |some a0=>some a0
  |_=>none
 |_=>none
theorem Azj(r:List PV)(x:Bool)(h:A7r r=some x):Cs r (A2g x):=by
 unfold A7r at h
 split at h
 ·split at h
  ·rename_i h0
   injection h with h;subst h;exact (.cons (E8 h0) Cs.nil)
  ·cases h
 ·cases h
def Axf(x:ByteArray):List PV:= [.val (.string x)]
def A7s(r:List PV):Option ByteArray:=match r with
 | [c0]=>match Rv c0 with
  |some a0=>some a0
  |_=>none
 |_=>none
theorem Azo(r:List PV)(x:ByteArray)(h:A7s r=some x):Cs r (Axf x):=by
 unfold A7s at h
 split at h
 ·split at h
  ·rename_i h0
   injection h with h;subst h;exact (.cons (Dy h0) Cs.nil)
  ·cases h
 ·cases h
def Aqg(x:(List Be)):List PV:= [.lst false (.t68 x)]
def Azd(r:List PV):Option (List Be):=match r with
 | [c0]=>match Aoi c0 with
  |some a0=>some a0
  |_=>none
 |_=>none
theorem Avq(r:List PV)(x:(List Be))(h:Azd r=some x):Cs r (Aqg x):=by
 unfold Azd at h
 split at h
 ·split at h
  ·rename_i h0
   injection h with h;subst h;exact (.cons (Zt h0) Cs.nil)
  ·cases h
 ·cases h
def Aqh(x:(List ByteArray)):List PV:= [.lst false (.t9 x)]
def Aze(r:List PV):Option (List ByteArray):=match r with
 | [c0]=>match dl9 c0 with
  |some a0=>some a0
  |_=>none
 |_=>none
theorem Avr(r:List PV)(x:(List ByteArray))(h:Aze r=some x):Cs r (Aqh x):=by
 unfold Aze at h
 split at h
 ·split at h
  ·rename_i h0
   injection h with h;subst h;exact (.cons (Ol h0) Cs.nil)
  ·cases h
 ·cases h
def Ah8(x:Ac):List PV:= [.val (.string x.Name),.lst false (.t72 x.Vars),.lst false (.t149 x.Resources),.lst false (.t156 x.Stores),.lst false (.t160 x.Belts),.lst false (.t9 x.Queues),.lst false (.t9 x.Streams),.lst false (.t9 x.Tallies),.lst false (.t9 x.Levels),.lst false (.t9 x.Counts),.lst false (.t74 x.Routines),.lst false (.t166 x.Starts),.lst false (.t184 x.Laws)]
def Azf(r:List PV):Option Ac:=match r with
 | [c0,c1,c2,c3,c4,c5,c6,c7,c8,c9,c10,c11,c12]=>match Rv c0,Ale c1,Apv c2,Apw c3,Apx c4,dl9 c5,dl9 c6,dl9 c7,dl9 c8,dl9 c9,A12 c10,Apy c11,Apz c12 with
  |some a0,some a1,some a2,some a3,some a4,some a5,some a6,some a7,some a8,some a9,some a10,some a11,some a12=>some (Ac.mk a0 a1 a2 a3 a4 a5 a6 a7 a8 a9 a10 a11 a12)
  |_,_,_,_,_,_,_,_,_,_,_,_,_=>none
 |_=>none
theorem Avs(r:List PV)(x:Ac)(h:Azf r=some x):Cs r (Ah8 x):=by
 unfold Azf at h
 split at h
 ·split at h
  ·rename_i h0 h1 h2 h3 h4 h5 h6 h7 h8 h9 h10 h11 h12
   injection h with h;subst h;exact (.cons (Dy h0) (.cons (Xs h1) (.cons (Aej h2) (.cons (Aek h3) (.cons (Ael h4) (.cons (Ol h5) (.cons (Ol h6) (.cons (Ol h7) (.cons (Ol h8) (.cons (Ol h9) (.cons (Aki h10) (.cons (Aem h11) (.cons (Aen h12) Cs.nil)))))))))))))
  ·cases h
 ·cases h
def Ac4(x:Aa):List PV:= [.val (.int .i64 x.Op),.val (.string x.Name),.val (.int .i64 x.N),.lst false (.t38 x.Kids)]
def Azg(r:List PV):Option Aa:=match r with
 | [c0,c1,c2,c3]=>match Ix .i64 c0,Rv c1,Ix .i64 c2,Ain c3 with
  |some a0,some a1,some a2,some a3=>some (Aa.mk a0 a1 a2 a3)
  |_,_,_,_=>none
 |_=>none
theorem Avt(r:List PV)(x:Aa)(h:Azg r=some x):Cs r (Ac4 x):=by
 unfold Azg at h
 split at h
 ·split at h
  ·rename_i h0 h1 h2 h3
   injection h with h;subst h;exact (.cons (Ck h0) (.cons (Dy h1) (.cons (Ck h2) (.cons (V2 h3) Cs.nil))))
  ·cases h
 ·cases h
def Aqi(x:Int):List PV:= [.val (.int .i64 x)]
def Azi(r:List PV):Option Int:=match r with
 | [c0]=>match Ix .i64 c0 with
  |some a0=>some a0
  |_=>none
 |_=>none
theorem Avu(r:List PV)(x:Int)(h:Azi r=some x):Cs r (Aqi x):=by
 unfold Azi at h
 split at h
 ·split at h
  ·rename_i h0
   injection h with h;subst h;exact (.cons (Ck h0) Cs.nil)
  ·cases h
 ·cases h
def Ah9(x:Be):List PV:= [.val (.string x.Name),.val (.int .i64 x.Type_)]
def Azk(r:List PV):Option Be:=match r with
 | [c0,c1]=>match Rv c0,Ix .i64 c1 with
  |some a0,some a1=>some (Be.mk a0 a1)
  |_,_=>none
 |_=>none
theorem Avv(r:List PV)(x:Be)(h:Azk r=some x):Cs r (Ah9 x):=by
 unfold Azk at h
 split at h
 ·split at h
  ·rename_i h0 h1
   injection h with h;subst h;exact (.cons (Dy h0) (.cons (Ck h1) Cs.nil))
  ·cases h
 ·cases h
def Aia(x:Bp):List PV:= [.val (.string x.Name),.val (.int .i64 x.Type_),.val (.int .i64 x.N)]
def Azl(r:List PV):Option Bp:=match r with
 | [c0,c1,c2]=>match Rv c0,Ix .i64 c1,Ix .i64 c2 with
  |some a0,some a1,some a2=>some (Bp.mk a0 a1 a2)
  |_,_,_=>none
 |_=>none
theorem Avw(r:List PV)(x:Bp)(h:Azl r=some x):Cs r (Aia x):=by
 unfold Azl at h
 split at h
 ·split at h
  ·rename_i h0 h1 h2
   injection h with h;subst h;exact (.cons (Dy h0) (.cons (Ck h1) (.cons (Ck h2) Cs.nil)))
  ·cases h
 ·cases h
def Aib(x:Bg):List PV:= [.val (.string x.Name),.lst false (.t68 x.Params),.lst false (.t68 x.Locals),.lst false (.t82 x.Body)]
def Azm(r:List PV):Option Bg:=match r with
 | [c0,c1,c2,c3]=>match Rv c0,Aoi c1,Aoi c2,Asl c3 with
  |some a0,some a1,some a2,some a3=>some (Bg.mk a0 a1 a2 a3)
  |_,_,_,_=>none
 |_=>none
theorem Avx(r:List PV)(x:Bg)(h:Azm r=some x):Cs r (Aib x):=by
 unfold Azm at h
 split at h
 ·split at h
  ·rename_i h0 h1 h2 h3
   injection h with h;subst h;exact (.cons (Dy h0) (.cons (Zt h1) (.cons (Zt h2) (.cons (t5 h3) Cs.nil))))
  ·cases h
 ·cases h
def Aac(x:Ab):List PV:= [.val (.int .i64 x.Op),.val (.string x.Name),.val (.string x.Of),.val (.int .i64 x.E.Op),.val (.string x.E.Name),.val (.int .i64 x.E.N),.lst false (.t38 x.E.Kids),.val (.int .i64 x.F.Op),.val (.string x.F.Name),.val (.int .i64 x.F.N),.lst false (.t38 x.F.Kids),.lst false (.t38 x.Args),.val (.int .i64 x.Dist.Op),.val (.int .i64 x.Dist.A),.val (.int .i64 x.Dist.B),.val (.int .i64 x.Dist.N),.lst false (.t3 x.Dist.Values),.lst false (.t3 x.Dist.Weights),.val (.bool x.Flag),.lst false (.t82 x.Body),.lst false (.t82 x.Else)]
def Azn(r:List PV):Option Ab:=match r with
 | [c0,c1,c2,c3,c4,c5,c6,c7,c8,c9,c10,c11,c12,c13,c14,c15,c16,c17,c18,c19,c20]=>match Ix .i64 c0,Rv c1,Rv c2,Ix .i64 c3,Rv c4,Ix .i64 c5,Ain c6,Ix .i64 c7,Rv c8,Ix .i64 c9,Ain c10,Ain c11,Ix .i64 c12,Ix .i64 c13,Ix .i64 c14,Ix .i64 c15,dl3 c16,dl3 c17,Qe c18,Asl c19,Asl c20 with
  |some a0,some a1,some a2,some a3,some a4,some a5,some a6,some a7,some a8,some a9,some a10,some a11,some a12,some a13,some a14,some a15,some a16,some a17,some a18,some a19,some a20=>some (Ab.mk a0 a1 a2 (Aa.mk a3 a4 a5 a6) (Aa.mk a7 a8 a9 a10) a11 (Bo.mk a12 a13 a14 a15 a16 a17) a18 a19 a20)
  |_,_,_,_,_,_,_,_,_,_,_,_,_,_,_,_,_,_,_,_,_=>none
 |_=>none
theorem Avy(r:List PV)(x:Ab)(h:Azn r=some x):Cs r (Aac x):=by
 unfold Azn at h
 split at h
 ·split at h
  ·rename_i h0 h1 h2 h3 h4 h5 h6 h7 h8 h9 h10 h11 h12 h13 h14 h15 h16 h17 h18 h19 h20
   injection h with h;subst h;exact (.cons (Ck h0) (.cons (Dy h1) (.cons (Dy h2) (.cons (Ck h3) (.cons (Dy h4) (.cons (Ck h5) (.cons (V2 h6) (.cons (Ck h7) (.cons (Dy h8) (.cons (Ck h9) (.cons (V2 h10) (.cons (V2 h11) (.cons (Ck h12) (.cons (Ck h13) (.cons (Ck h14) (.cons (Ck h15) (.cons (W6 h16) (.cons (W6 h17) (.cons (E8 h18) (.cons (t5 h19) (.cons (t5 h20) Cs.nil)))))))))))))))))))))
  ·cases h
 ·cases h
def Abp(x:Bf):List PV:= [.val (.string x.Name),.val (.int .i64 x.Units),.lst false (.t228 x.Shift),.val (.int .i64 x.Cycle),.val (.string x.Fault.Stream),.val (.int .i64 x.Fault.Up.Op),.val (.int .i64 x.Fault.Up.A),.val (.int .i64 x.Fault.Up.B),.val (.int .i64 x.Fault.Up.N),.lst false (.t3 x.Fault.Up.Values),.lst false (.t3 x.Fault.Up.Weights),.val (.int .i64 x.Fault.Down.Op),.val (.int .i64 x.Fault.Down.A),.val (.int .i64 x.Fault.Down.B),.val (.int .i64 x.Fault.Down.N),.lst false (.t3 x.Fault.Down.Values),.lst false (.t3 x.Fault.Down.Weights)]
def Asa(r:List PV):Option Bf:=match r with
 | [c0,c1,c2,c3,c4,c5,c6,c7,c8,c9,c10,c11,c12,c13,c14,c15,c16]=>match Rv c0,Ix .i64 c1,A3c c2,Ix .i64 c3,Rv c4,Ix .i64 c5,Ix .i64 c6,Ix .i64 c7,Ix .i64 c8,dl3 c9,dl3 c10,Ix .i64 c11,Ix .i64 c12,Ix .i64 c13,Ix .i64 c14,dl3 c15,dl3 c16 with
  |some a0,some a1,some a2,some a3,some a4,some a5,some a6,some a7,some a8,some a9,some a10,some a11,some a12,some a13,some a14,some a15,some a16=>some (Bf.mk a0 a1 a2 a3 (T1.mk a4 (Bo.mk a5 a6 a7 a8 a9 a10) (Bo.mk a11 a12 a13 a14 a15 a16)))
  |_,_,_,_,_,_,_,_,_,_,_,_,_,_,_,_,_=>none
 |_=>none
theorem Api(r:List PV)(x:Bf)(h:Asa r=some x):Cs r (Abp x):=by
 unfold Asa at h
 split at h
 ·split at h
  ·rename_i h0 h1 h2 h3 h4 h5 h6 h7 h8 h9 h10 h11 h12 h13 h14 h15 h16
   injection h with h;subst h;exact (.cons (Dy h0) (.cons (Ck h1) (.cons (A3d h2) (.cons (Ck h3) (.cons (Dy h4) (.cons (Ck h5) (.cons (Ck h6) (.cons (Ck h7) (.cons (Ck h8) (.cons (W6 h9) (.cons (W6 h10) (.cons (Ck h11) (.cons (Ck h12) (.cons (Ck h13) (.cons (Ck h14) (.cons (W6 h15) (.cons (W6 h16) Cs.nil)))))))))))))))))
  ·cases h
 ·cases h
def Abq(x:Bx):List PV:= [.val (.string x.Name),.val (.int .i64 x.Room),.val (.int .i64 x.Policy)]
def Asb(r:List PV):Option Bx:=match r with
 | [c0,c1,c2]=>match Rv c0,Ix .i64 c1,Ix .i64 c2 with
  |some a0,some a1,some a2=>some (Bx.mk a0 a1 a2)
  |_,_,_=>none
 |_=>none
theorem Apj(r:List PV)(x:Bx)(h:Asb r=some x):Cs r (Abq x):=by
 unfold Asb at h
 split at h
 ·split at h
  ·rename_i h0 h1 h2
   injection h with h;subst h;exact (.cons (Dy h0) (.cons (Ck h1) (.cons (Ck h2) Cs.nil)))
  ·cases h
 ·cases h
def Abr(x:B3):List PV:= [.val (.string x.Name),.val (.int .i64 x.Length),.val (.int .i64 x.Step)]
def Asc(r:List PV):Option B3:=match r with
 | [c0,c1,c2]=>match Rv c0,Ix .i64 c1,Ix .i64 c2 with
  |some a0,some a1,some a2=>some (B3.mk a0 a1 a2)
  |_,_,_=>none
 |_=>none
theorem Apk(r:List PV)(x:B3)(h:Asc r=some x):Cs r (Abr x):=by
 unfold Asc at h
 split at h
 ·split at h
  ·rename_i h0 h1 h2
   injection h with h;subst h;exact (.cons (Dy h0) (.cons (Ck h1) (.cons (Ck h2) Cs.nil)))
  ·cases h
 ·cases h
def Abs(x:Hg):List PV:= [.val (.string x.Routine),.lst false (.t3 x.Args),.val (.int .i64 x.At),.val (.int .i64 x.Every),.val (.int .i64 x.Until)]
def Asd(r:List PV):Option Hg:=match r with
 | [c0,c1,c2,c3,c4]=>match Rv c0,dl3 c1,Ix .i64 c2,Ix .i64 c3,Ix .i64 c4 with
  |some a0,some a1,some a2,some a3,some a4=>some (Hg.mk a0 a1 a2 a3 a4)
  |_,_,_,_,_=>none
 |_=>none
theorem Apl(r:List PV)(x:Hg)(h:Asd r=some x):Cs r (Abs x):=by
 unfold Asd at h
 split at h
 ·split at h
  ·rename_i h0 h1 h2 h3 h4
   injection h with h;subst h;exact (.cons (Dy h0) (.cons (W6 h1) (.cons (Ck h2) (.cons (Ck h3) (.cons (Ck h4) Cs.nil)))))
  ·cases h
 ·cases h
def Abt(x:Cq):List PV:= [.val (.string x.From),.val (.string x.To),.val (.int .i64 x.Delay)]
def Ase(r:List PV):Option Cq:=match r with
 | [c0,c1,c2]=>match Rv c0,Rv c1,Ix .i64 c2 with
  |some a0,some a1,some a2=>some (Cq.mk a0 a1 a2)
  |_,_,_=>none
 |_=>none
theorem Apm(r:List PV)(x:Cq)(h:Ase r=some x):Cs r (Abt x):=by
 unfold Ase at h
 split at h
 ·split at h
  ·rename_i h0 h1 h2
   injection h with h;subst h;exact (.cons (Dy h0) (.cons (Dy h1) (.cons (Ck h2) Cs.nil)))
  ·cases h
 ·cases h
def Amv(x:Nn):List PV:= [.val (.string x.a0),.val (.string x.a1)]
def Asf(r:List PV):Option Nn:=match r with
 | [c0,c1]=>match Rv c0,Rv c1 with
  |some a0,some a1=>some (Nn.mk a0 a1)
  |_,_=>none
 |_=>none
theorem Apn(r:List PV)(x:Nn)(h:Asf r=some x):Cs r (Amv x):=by
 unfold Asf at h
 split at h
 ·split at h
  ·rename_i h0 h1
   injection h with h;subst h;exact (.cons (Dy h0) (.cons (Dy h1) Cs.nil))
  ·cases h
 ·cases h
def Abu(x:Oh):List PV:= [.val (.string x.Name),.lst false (.t234 x.Terms),.val (.int .i64 x.Total)]
def Asg(r:List PV):Option Oh:=match r with
 | [c0,c1,c2]=>match Rv c0,A3e c1,Ix .i64 c2 with
  |some a0,some a1,some a2=>some (Oh.mk a0 a1 a2)
  |_,_,_=>none
 |_=>none
theorem Apo(r:List PV)(x:Oh)(h:Asg r=some x):Cs r (Abu x):=by
 unfold Asg at h
 split at h
 ·split at h
  ·rename_i h0 h1 h2
   injection h with h;subst h;exact (.cons (Dy h0) (.cons (A3f h1) (.cons (Ck h2) Cs.nil)))
  ·cases h
 ·cases h
def Amw(x:D9):List PV:= [.val (.bool x.u_is),.val (.string x.u_name)]
def Ash(r:List PV):Option D9:=match r with
 | [c0,c1]=>match Qe c0,Rv c1 with
  |some a0,some a1=>some (D9.mk a0 a1)
  |_,_=>none
 |_=>none
theorem Apq(r:List PV)(x:D9)(h:Ash r=some x):Cs r (Amw x):=by
 unfold Ash at h
 split at h
 ·split at h
  ·rename_i h0 h1
   injection h with h;subst h;exact (.cons (E8 h0) (.cons (Dy h1) Cs.nil))
  ·cases h
 ·cases h
def Amx(x:My):List PV:= [.val (.bool x.u_is),.val (.int .i64 x.u_e.Op),.val (.string x.u_e.Name),.val (.int .i64 x.u_e.N),.lst false (.t38 x.u_e.Kids)]
def Asi(r:List PV):Option My:=match r with
 | [c0,c1,c2,c3,c4]=>match Qe c0,Ix .i64 c1,Rv c2,Ix .i64 c3,Ain c4 with
  |some a0,some a1,some a2,some a3,some a4=>some (My.mk a0 (Aa.mk a1 a2 a3 a4))
  |_,_,_,_,_=>none
 |_=>none
theorem Apr(r:List PV)(x:My)(h:Asi r=some x):Cs r (Amx x):=by
 unfold Asi at h
 split at h
 ·split at h
  ·rename_i h0 h1 h2 h3 h4
   injection h with h;subst h;exact (.cons (E8 h0) (.cons (Ck h1) (.cons (Dy h2) (.cons (Ck h3) (.cons (V2 h4) Cs.nil)))))
  ·cases h
 ·cases h
def Abv(x:F6):List PV:= [.val (.int .i64 x.At),.val (.int .i64 x.Units)]
def Asj(r:List PV):Option F6:=match r with
 | [c0,c1]=>match Ix .i64 c0,Ix .i64 c1 with
  |some a0,some a1=>some (F6.mk a0 a1)
  |_,_=>none
 |_=>none
theorem Aps(r:List PV)(x:F6)(h:Asj r=some x):Cs r (Abv x):=by
 unfold Asj at h
 split at h
 ·split at h
  ·rename_i h0 h1
   injection h with h;subst h;exact (.cons (Ck h0) (.cons (Ck h1) Cs.nil))
  ·cases h
 ·cases h
def Abw(x:Jz):List PV:= [.val (.int .i64 x.Coef),.val (.string x.What),.val (.string x.Name)]
def Ask(r:List PV):Option Jz:=match r with
 | [c0,c1,c2]=>match Ix .i64 c0,Rv c1,Rv c2 with
  |some a0,some a1,some a2=>some (Jz.mk a0 a1 a2)
  |_,_,_=>none
 |_=>none
theorem Apt(r:List PV)(x:Jz)(h:Ask r=some x):Cs r (Abw x):=by
 unfold Ask at h
 split at h
 ·split at h
  ·rename_i h0 h1 h2
   injection h with h;subst h;exact (.cons (Ck h0) (.cons (Dy h1) (.cons (Dy h2) Cs.nil)))
  ·cases h
 ·cases h
def LX.row(x:LX)(i:Nat):List PV:=match x with
 | .t3 l=>Axe (l.getD i default)
 | .t4 l=>A2g (l.getD i default)
 | .t9 l=>Axf (l.getD i default)
 | .t23 l=>Aqg (l.getD i default)
 | .t27 l=>Aqh (l.getD i default)
 | .t32 l=>Ah8 (l.getD i default)
 | .t38 l=>Ac4 (l.getD i default)
 | .t41 l=>Aqi (l.getD i default)
 | .t68 l=>Ah9 (l.getD i default)
 | .t72 l=>Aia (l.getD i default)
 | .t74 l=>Aib (l.getD i default)
 | .t82 l=>Aac (l.getD i default)
 | .t149 l=>Abp (l.getD i default)
 | .t156 l=>Abq (l.getD i default)
 | .t160 l=>Abr (l.getD i default)
 | .t166 l=>Abs (l.getD i default)
 | .t172 l=>Abt (l.getD i default)
 | .t173 l=>Amv (l.getD i default)
 | .t184 l=>Abu (l.getD i default)
 | .t188 l=>Amw (l.getD i default)
 | .t190 l=>Amx (l.getD i default)
 | .t228 l=>Abv (l.getD i default)
 | .t234 l=>Abw (l.getD i default)
def LX.lit(e:Nat)(rs:List (List PV)):Option LX:=match Nat.beq e 3 with
 |true=>M0 .t3 (U5 A7q rs)
 |false=>match Nat.beq e 4 with
 |true=>M0 .t4 (U5 A7r rs)
 |false=>match Nat.beq e 9 with
 |true=>M0 .t9 (U5 A7s rs)
 |false=>match Nat.beq e 23 with
 |true=>M0 .t23 (U5 Azd rs)
 |false=>match Nat.beq e 27 with
 |true=>M0 .t27 (U5 Aze rs)
 |false=>match Nat.beq e 32 with
 |true=>M0 .t32 (U5 Azf rs)
 |false=>match Nat.beq e 38 with
 |true=>M0 .t38 (U5 Azg rs)
 |false=>match Nat.beq e 41 with
 |true=>M0 .t41 (U5 Azi rs)
 |false=>match Nat.beq e 68 with
 |true=>M0 .t68 (U5 Azk rs)
 |false=>match Nat.beq e 72 with
 |true=>M0 .t72 (U5 Azl rs)
 |false=>match Nat.beq e 74 with
 |true=>M0 .t74 (U5 Azm rs)
 |false=>match Nat.beq e 82 with
 |true=>M0 .t82 (U5 Azn rs)
 |false=>match Nat.beq e 149 with
 |true=>M0 .t149 (U5 Asa rs)
 |false=>match Nat.beq e 156 with
 |true=>M0 .t156 (U5 Asb rs)
 |false=>match Nat.beq e 160 with
 |true=>M0 .t160 (U5 Asc rs)
 |false=>match Nat.beq e 166 with
 |true=>M0 .t166 (U5 Asd rs)
 |false=>match Nat.beq e 172 with
 |true=>M0 .t172 (U5 Ase rs)
 |false=>match Nat.beq e 173 with
 |true=>M0 .t173 (U5 Asf rs)
 |false=>match Nat.beq e 184 with
 |true=>M0 .t184 (U5 Asg rs)
 |false=>match Nat.beq e 188 with
 |true=>M0 .t188 (U5 Ash rs)
 |false=>match Nat.beq e 190 with
 |true=>M0 .t190 (U5 Asi rs)
 |false=>match Nat.beq e 228 with
 |true=>M0 .t228 (U5 Asj rs)
 |false=>match Nat.beq e 234 with
 |true=>M0 .t234 (U5 Ask rs)
 |false=>none
def LX.set(x:LX)(i off:Nat)(c:List PV):Option LX:=match x with
 | .t3 l=>Xd (Jt (Axe (l.getD i default)) (off+c.length)) (fun a=> .t3 (l.set i a)) (A7q (G6 (Axe (l.getD i default)) off c))
 | .t4 l=>Xd (Jt (A2g (l.getD i default)) (off+c.length)) (fun a=> .t4 (l.set i a)) (A7r (G6 (A2g (l.getD i default)) off c))
 | .t9 l=>Xd (Jt (Axf (l.getD i default)) (off+c.length)) (fun a=> .t9 (l.set i a)) (A7s (G6 (Axf (l.getD i default)) off c))
 | .t23 l=>Xd (Jt (Aqg (l.getD i default)) (off+c.length)) (fun a=> .t23 (l.set i a)) (Azd (G6 (Aqg (l.getD i default)) off c))
 | .t27 l=>Xd (Jt (Aqh (l.getD i default)) (off+c.length)) (fun a=> .t27 (l.set i a)) (Aze (G6 (Aqh (l.getD i default)) off c))
 | .t32 l=>Xd (Jt (Ah8 (l.getD i default)) (off+c.length)) (fun a=> .t32 (l.set i a)) (Azf (G6 (Ah8 (l.getD i default)) off c))
 | .t38 l=>Xd (Jt (Ac4 (l.getD i default)) (off+c.length)) (fun a=> .t38 (l.set i a)) (Azg (G6 (Ac4 (l.getD i default)) off c))
 | .t41 l=>Xd (Jt (Aqi (l.getD i default)) (off+c.length)) (fun a=> .t41 (l.set i a)) (Azi (G6 (Aqi (l.getD i default)) off c))
 | .t68 l=>Xd (Jt (Ah9 (l.getD i default)) (off+c.length)) (fun a=> .t68 (l.set i a)) (Azk (G6 (Ah9 (l.getD i default)) off c))
 | .t72 l=>Xd (Jt (Aia (l.getD i default)) (off+c.length)) (fun a=> .t72 (l.set i a)) (Azl (G6 (Aia (l.getD i default)) off c))
 | .t74 l=>Xd (Jt (Aib (l.getD i default)) (off+c.length)) (fun a=> .t74 (l.set i a)) (Azm (G6 (Aib (l.getD i default)) off c))
 | .t82 l=>Xd (Jt (Aac (l.getD i default)) (off+c.length)) (fun a=> .t82 (l.set i a)) (Azn (G6 (Aac (l.getD i default)) off c))
 | .t149 l=>Xd (Jt (Abp (l.getD i default)) (off+c.length)) (fun a=> .t149 (l.set i a)) (Asa (G6 (Abp (l.getD i default)) off c))
 | .t156 l=>Xd (Jt (Abq (l.getD i default)) (off+c.length)) (fun a=> .t156 (l.set i a)) (Asb (G6 (Abq (l.getD i default)) off c))
 | .t160 l=>Xd (Jt (Abr (l.getD i default)) (off+c.length)) (fun a=> .t160 (l.set i a)) (Asc (G6 (Abr (l.getD i default)) off c))
 | .t166 l=>Xd (Jt (Abs (l.getD i default)) (off+c.length)) (fun a=> .t166 (l.set i a)) (Asd (G6 (Abs (l.getD i default)) off c))
 | .t172 l=>Xd (Jt (Abt (l.getD i default)) (off+c.length)) (fun a=> .t172 (l.set i a)) (Ase (G6 (Abt (l.getD i default)) off c))
 | .t173 l=>Xd (Jt (Amv (l.getD i default)) (off+c.length)) (fun a=> .t173 (l.set i a)) (Asf (G6 (Amv (l.getD i default)) off c))
 | .t184 l=>Xd (Jt (Abu (l.getD i default)) (off+c.length)) (fun a=> .t184 (l.set i a)) (Asg (G6 (Abu (l.getD i default)) off c))
 | .t188 l=>Xd (Jt (Amw (l.getD i default)) (off+c.length)) (fun a=> .t188 (l.set i a)) (Ash (G6 (Amw (l.getD i default)) off c))
 | .t190 l=>Xd (Jt (Amx (l.getD i default)) (off+c.length)) (fun a=> .t190 (l.set i a)) (Asi (G6 (Amx (l.getD i default)) off c))
 | .t228 l=>Xd (Jt (Abv (l.getD i default)) (off+c.length)) (fun a=> .t228 (l.set i a)) (Asj (G6 (Abv (l.getD i default)) off c))
 | .t234 l=>Xd (Jt (Abw (l.getD i default)) (off+c.length)) (fun a=> .t234 (l.set i a)) (Ask (G6 (Abw (l.getD i default)) off c))
def LX.find(x:LX)(c:List PV):Option (Option Nat):=match x,c with
 | .t3 l,[.val (.int k0 a0)]=>match decide (k0= .i64) with
  |true=>some (l.findIdx? fun b=>a0 == b)
  |_=>none
 | .t4 l,[.val (.bool a0)]=>some (l.findIdx? fun b=>a0 == b)
 | .t9 l,[.val (.string a0)]=>some (l.findIdx? fun b=>a0 == b)
 | .t41 l,[.val (.int k0 a0)]=>match decide (k0= .i64) with
  |true=>some (l.findIdx? fun b=>a0 == b)
  |_=>none
 | .t173 l,[.val (.string a0),.val (.string a1)]=>some (l.findIdx? fun b=>(a0 == b.a0 && (a1 == b.a1)))
 |_,_=>none
def LX.push(x:LX)(c:List PV):Option LX:=match LX.lit x.e [c] with
 |some y=>x.cat y
 |none=>none
theorem LX.row_len(x:LX)(i:Nat):(x.row i).length=x.sz:=by cases x<;>rfl
theorem LX.row_flat(x:LX)(i:Nat):∀p∈x.row i,p.flat=true:=Ap5 _ (by cases x<;>rfl)
theorem LX.nil_spec(e:Nat)(x:LX)(h:LX.nil e=some x):x.e=e∧x.len=0:=by
 unfold LX.nil at h
 cases b3:Nat.beq e 3
 case true=>simp only [b3] at h;injection h with h;subst h;exact ⟨(Nat.eq_of_beq_eq_true b3).symm,rfl⟩
 simp only [b3] at h
 cases b4:Nat.beq e 4
 case true=>simp only [b4] at h;injection h with h;subst h;exact ⟨(Nat.eq_of_beq_eq_true b4).symm,rfl⟩
 simp only [b4] at h
 cases b9:Nat.beq e 9
 case true=>simp only [b9] at h;injection h with h;subst h;exact ⟨(Nat.eq_of_beq_eq_true b9).symm,rfl⟩
 simp only [b9] at h
 cases b23:Nat.beq e 23
 case true=>simp only [b23] at h;injection h with h;subst h;exact ⟨(Nat.eq_of_beq_eq_true b23).symm,rfl⟩
 simp only [b23] at h
 cases b27:Nat.beq e 27
 case true=>simp only [b27] at h;injection h with h;subst h;exact ⟨(Nat.eq_of_beq_eq_true b27).symm,rfl⟩
 simp only [b27] at h
 cases b32:Nat.beq e 32
 case true=>simp only [b32] at h;injection h with h;subst h;exact ⟨(Nat.eq_of_beq_eq_true b32).symm,rfl⟩
 simp only [b32] at h
 cases b38:Nat.beq e 38
 case true=>simp only [b38] at h;injection h with h;subst h;exact ⟨(Nat.eq_of_beq_eq_true b38).symm,rfl⟩
 simp only [b38] at h
 cases b41:Nat.beq e 41
 case true=>simp only [b41] at h;injection h with h;subst h;exact ⟨(Nat.eq_of_beq_eq_true b41).symm,rfl⟩
 simp only [b41] at h
 cases b68:Nat.beq e 68
 case true=>simp only [b68] at h;injection h with h;subst h;exact ⟨(Nat.eq_of_beq_eq_true b68).symm,rfl⟩
 simp only [b68] at h
 cases b72:Nat.beq e 72
 case true=>simp only [b72] at h;injection h with h;subst h;exact ⟨(Nat.eq_of_beq_eq_true b72).symm,rfl⟩
 simp only [b72] at h
 cases b74:Nat.beq e 74
 case true=>simp only [b74] at h;injection h with h;subst h;exact ⟨(Nat.eq_of_beq_eq_true b74).symm,rfl⟩
 simp only [b74] at h
 cases b82:Nat.beq e 82
 case true=>simp only [b82] at h;injection h with h;subst h;exact ⟨(Nat.eq_of_beq_eq_true b82).symm,rfl⟩
 simp only [b82] at h
 cases b149:Nat.beq e 149
 case true=>simp only [b149] at h;injection h with h;subst h;exact ⟨(Nat.eq_of_beq_eq_true b149).symm,rfl⟩
 simp only [b149] at h
 cases b156:Nat.beq e 156
 case true=>simp only [b156] at h;injection h with h;subst h;exact ⟨(Nat.eq_of_beq_eq_true b156).symm,rfl⟩
 simp only [b156] at h
 cases b160:Nat.beq e 160
 case true=>simp only [b160] at h;injection h with h;subst h;exact ⟨(Nat.eq_of_beq_eq_true b160).symm,rfl⟩
 simp only [b160] at h
 cases b166:Nat.beq e 166
 case true=>simp only [b166] at h;injection h with h;subst h;exact ⟨(Nat.eq_of_beq_eq_true b166).symm,rfl⟩
 simp only [b166] at h
 cases b172:Nat.beq e 172
 case true=>simp only [b172] at h;injection h with h;subst h;exact ⟨(Nat.eq_of_beq_eq_true b172).symm,rfl⟩
 simp only [b172] at h
 cases b173:Nat.beq e 173
 case true=>simp only [b173] at h;injection h with h;subst h;exact ⟨(Nat.eq_of_beq_eq_true b173).symm,rfl⟩
 simp only [b173] at h
 cases b184:Nat.beq e 184
 case true=>simp only [b184] at h;injection h with h;subst h;exact ⟨(Nat.eq_of_beq_eq_true b184).symm,rfl⟩
 simp only [b184] at h
 cases b188:Nat.beq e 188
 case true=>simp only [b188] at h;injection h with h;subst h;exact ⟨(Nat.eq_of_beq_eq_true b188).symm,rfl⟩
 simp only [b188] at h
 cases b190:Nat.beq e 190
 case true=>simp only [b190] at h;injection h with h;subst h;exact ⟨(Nat.eq_of_beq_eq_true b190).symm,rfl⟩
 simp only [b190] at h
 cases b228:Nat.beq e 228
 case true=>simp only [b228] at h;injection h with h;subst h;exact ⟨(Nat.eq_of_beq_eq_true b228).symm,rfl⟩
 simp only [b228] at h
 cases b234:Nat.beq e 234
 case true=>simp only [b234] at h;injection h with h;subst h;exact ⟨(Nat.eq_of_beq_eq_true b234).symm,rfl⟩
 simp only [b234] at h
 cases h
theorem Aya{α :Type} [Inhabited α](l m:List α)(i:Nat)(h:i < l.length):(l++m).getD i default=l.getD i default:=by
 simp [List.getD,List.getElem?_append_left h]
theorem Ayb{α :Type} [Inhabited α](l m:List α)(i:Nat):(l++m).getD (l.length+i) default=m.getD i default:=by
 simp [List.getD,List.getElem?_append_right]
theorem A3n{α :Type} [Inhabited α](l:List α)(a b i:Nat)(h1:b≤l.length)(h2:i < b - a):((l.take b).drop a).getD i default=l.getD (a+i) default:=by
 simp only [List.getD_eq_getElem?_getD,List.getElem?_drop,List.getElem?_take]
 rw [if_pos (by omega)]
theorem A3m{α :Type} [Inhabited α](n i:Nat)(a: α)(h:i < n):(List.replicate n a).getD i default=a:=by
 simp [List.getD_eq_getElem?_getD,List.getElem?_replicate,h]
theorem Awc{α :Type} [Inhabited α](l:List α)(i:Nat)(a: α)(h:i < l.length):(l.set i a).getD i default=a:=by
 simp [List.getD_eq_getElem?_getD,h]
theorem Awd{α :Type} [Inhabited α](l:List α)(i j:Nat)(a: α)(h:j≠i):(l.set i a).getD j default=l.getD j default:=by
 simp [List.getD_eq_getElem?_getD,List.getElem?_set_ne (fun e=>h e.symm)]
theorem Ro{α :Type} [Inhabited α](l:List α)(i:Nat)(h:i < l.length):l.getD i default=l[i]:=by
 simp [List.getD_eq_getElem?_getD,h]
theorem LX.g3_eq(y:LX)(m:List Int)(h:y.g3=some m):y= .t3 m:=by cases y<;>simp only [LX.g3] at h<;>first|(injection h with h;subst h;rfl)|cases h
theorem LX.g4_eq(y:LX)(m:List Bool)(h:y.g4=some m):y= .t4 m:=by cases y<;>simp only [LX.g4] at h<;>first|(injection h with h;subst h;rfl)|cases h
theorem LX.g9_eq(y:LX)(m:List ByteArray)(h:y.g9=some m):y= .t9 m:=by cases y<;>simp only [LX.g9] at h<;>first|(injection h with h;subst h;rfl)|cases h
theorem LX.g23_eq(y:LX)(m:List (List Be))(h:y.g23=some m):y= .t23 m:=by cases y<;>simp only [LX.g23] at h<;>first|(injection h with h;subst h;rfl)|cases h
theorem LX.g27_eq(y:LX)(m:List (List ByteArray))(h:y.g27=some m):y= .t27 m:=by cases y<;>simp only [LX.g27] at h<;>first|(injection h with h;subst h;rfl)|cases h
theorem LX.g32_eq(y:LX)(m:List Ac)(h:y.g32=some m):y= .t32 m:=by cases y<;>simp only [LX.g32] at h<;>first|(injection h with h;subst h;rfl)|cases h
theorem LX.g38_eq(y:LX)(m:List Aa)(h:y.g38=some m):y= .t38 m:=by cases y<;>simp only [LX.g38] at h<;>first|(injection h with h;subst h;rfl)|cases h
theorem LX.g41_eq(y:LX)(m:List Int)(h:y.g41=some m):y= .t41 m:=by cases y<;>simp only [LX.g41] at h<;>first|(injection h with h;subst h;rfl)|cases h
theorem LX.g68_eq(y:LX)(m:List Be)(h:y.g68=some m):y= .t68 m:=by cases y<;>simp only [LX.g68] at h<;>first|(injection h with h;subst h;rfl)|cases h
theorem LX.g72_eq(y:LX)(m:List Bp)(h:y.g72=some m):y= .t72 m:=by cases y<;>simp only [LX.g72] at h<;>first|(injection h with h;subst h;rfl)|cases h
theorem LX.g74_eq(y:LX)(m:List Bg)(h:y.g74=some m):y= .t74 m:=by cases y<;>simp only [LX.g74] at h<;>first|(injection h with h;subst h;rfl)|cases h
theorem LX.g82_eq(y:LX)(m:List Ab)(h:y.g82=some m):y= .t82 m:=by cases y<;>simp only [LX.g82] at h<;>first|(injection h with h;subst h;rfl)|cases h
theorem LX.g149_eq(y:LX)(m:List Bf)(h:y.g149=some m):y= .t149 m:=by cases y<;>simp only [LX.g149] at h<;>first|(injection h with h;subst h;rfl)|cases h
theorem LX.g156_eq(y:LX)(m:List Bx)(h:y.g156=some m):y= .t156 m:=by cases y<;>simp only [LX.g156] at h<;>first|(injection h with h;subst h;rfl)|cases h
theorem LX.g160_eq(y:LX)(m:List B3)(h:y.g160=some m):y= .t160 m:=by cases y<;>simp only [LX.g160] at h<;>first|(injection h with h;subst h;rfl)|cases h
theorem LX.g166_eq(y:LX)(m:List Hg)(h:y.g166=some m):y= .t166 m:=by cases y<;>simp only [LX.g166] at h<;>first|(injection h with h;subst h;rfl)|cases h
theorem LX.g172_eq(y:LX)(m:List Cq)(h:y.g172=some m):y= .t172 m:=by cases y<;>simp only [LX.g172] at h<;>first|(injection h with h;subst h;rfl)|cases h
theorem LX.g173_eq(y:LX)(m:List Nn)(h:y.g173=some m):y= .t173 m:=by cases y<;>simp only [LX.g173] at h<;>first|(injection h with h;subst h;rfl)|cases h
theorem LX.g184_eq(y:LX)(m:List Oh)(h:y.g184=some m):y= .t184 m:=by cases y<;>simp only [LX.g184] at h<;>first|(injection h with h;subst h;rfl)|cases h
theorem LX.g188_eq(y:LX)(m:List D9)(h:y.g188=some m):y= .t188 m:=by cases y<;>simp only [LX.g188] at h<;>first|(injection h with h;subst h;rfl)|cases h
theorem LX.g190_eq(y:LX)(m:List My)(h:y.g190=some m):y= .t190 m:=by cases y<;>simp only [LX.g190] at h<;>first|(injection h with h;subst h;rfl)|cases h
theorem LX.g228_eq(y:LX)(m:List F6)(h:y.g228=some m):y= .t228 m:=by cases y<;>simp only [LX.g228] at h<;>first|(injection h with h;subst h;rfl)|cases h
theorem LX.g234_eq(y:LX)(m:List Jz)(h:y.g234=some m):y= .t234 m:=by cases y<;>simp only [LX.g234] at h<;>first|(injection h with h;subst h;rfl)|cases h
structure KOK {α :Type} [Inhabited α] (K:List α→LX) (row: α→List PV) (e sz:Nat):Prop where
 e:∀l,(K l).e=e
 sz:∀l,(K l).sz=sz
 len:∀l,(K l).len=l.length
 row:∀l i,(K l).row i=row (l.getD i default)
section
variable {α :Type} [Inhabited α] {K:List α→LX} {row: α→List PV} {e0 sz:Nat}
theorem Yn(k:KOK K row e0 sz){d:List PV→Option α}(hd:∀r a,d r=some a→Cs r (row a)){e:Nat}(hb:Nat.beq e e0=true){rs:List (List PV)}{x:LX}(h:M0 K (U5 d rs)=some x):x.e=e∧x.len=rs.length∧∀(i:Nat) (r:List PV),rs[i]? =some r→Cs r (x.row i):=by
 unfold M0 at h
 cases hl:U5 d rs with
 |none=>rw [hl] at h;cases h
 |some l=>
  rw [hl] at h
  injection h with h;subst h
  obtain ⟨q1,q2⟩:=Apu hd rs l hl
  exact ⟨by rw [k.e];exact (Nat.eq_of_beq_eq_true hb).symm,by rw [k.len];exact q1,fun i r hr=>by rw [k.row];exact q2 i r hr⟩
theorem Ye(k:KOK K row e0 sz){y z:LX}{l:List α}{g:Option (List α)}(hg:∀m,g=some m→y=K m)(h:M0 (fun m=>K (l++m)) g=some z):y.e=(K l).e∧z.e=(K l).e∧y.sz=(K l).sz∧z.sz=(K l).sz∧z.len=(K l).len+y.len∧(∀i,i < (K l).len→z.row i=(K l).row i)∧(∀i,z.row ((K l).len+i)=y.row i):=by
 cases g with
 |none=>cases h
 |some m=>
  injection h with h;subst h
  rw [hg m rfl]
  simp only [k.e,k.sz,k.len,k.row,List.length_append,true_and]
  exact ⟨fun i hi=>by rw [Aya l m i hi],fun i=>by rw [Ayb]⟩
theorem Yy(k:KOK K row e0 sz)(l:List α)(a b:Nat)(h:b≤(K l).len):(K ((l.take b).drop a)).e=(K l).e∧(K ((l.take b).drop a)).sz=(K l).sz∧(K ((l.take b).drop a)).len=b - a∧∀i,i < b - a→(K ((l.take b).drop a)).row i=(K l).row (a+i):=by
 simp only [k.e,k.sz,k.len,k.row,true_and] at h ⊢
 exact ⟨by simp;omega,fun i hi=>by rw [A3n l a b i h hi]⟩
theorem Yw(k:KOK K row e0 sz)(l:List α)(n:Nat):(K (List.replicate n (l.getD 0 default))).e=(K l).e∧(K (List.replicate n (l.getD 0 default))).sz=(K l).sz∧(K (List.replicate n (l.getD 0 default))).len=n∧∀i,i < n→(K (List.replicate n (l.getD 0 default))).row i=(K l).row 0:=by
 simp only [k.e,k.sz,k.len,k.row,true_and]
 exact ⟨List.length_replicate,fun i hi=>by rw [A3m n i _ hi]⟩
end
theorem k3:KOK .t3 Axe 3 1:=⟨fun _=>rfl,fun _=>rfl,fun _=>rfl,fun _ _=>rfl⟩
theorem k4:KOK .t4 A2g 4 1:=⟨fun _=>rfl,fun _=>rfl,fun _=>rfl,fun _ _=>rfl⟩
theorem k9:KOK .t9 Axf 9 1:=⟨fun _=>rfl,fun _=>rfl,fun _=>rfl,fun _ _=>rfl⟩
theorem k23:KOK .t23 Aqg 23 1:=⟨fun _=>rfl,fun _=>rfl,fun _=>rfl,fun _ _=>rfl⟩
theorem k27:KOK .t27 Aqh 27 1:=⟨fun _=>rfl,fun _=>rfl,fun _=>rfl,fun _ _=>rfl⟩
theorem k32:KOK .t32 Ah8 32 13:=⟨fun _=>rfl,fun _=>rfl,fun _=>rfl,fun _ _=>rfl⟩
theorem k38:KOK .t38 Ac4 38 4:=⟨fun _=>rfl,fun _=>rfl,fun _=>rfl,fun _ _=>rfl⟩
theorem k41:KOK .t41 Aqi 41 1:=⟨fun _=>rfl,fun _=>rfl,fun _=>rfl,fun _ _=>rfl⟩
theorem k68:KOK .t68 Ah9 68 2:=⟨fun _=>rfl,fun _=>rfl,fun _=>rfl,fun _ _=>rfl⟩
theorem k72:KOK .t72 Aia 72 3:=⟨fun _=>rfl,fun _=>rfl,fun _=>rfl,fun _ _=>rfl⟩
theorem k74:KOK .t74 Aib 74 4:=⟨fun _=>rfl,fun _=>rfl,fun _=>rfl,fun _ _=>rfl⟩
theorem k82:KOK .t82 Aac 82 21:=⟨fun _=>rfl,fun _=>rfl,fun _=>rfl,fun _ _=>rfl⟩
theorem A35:KOK .t149 Abp 149 17:=⟨fun _=>rfl,fun _=>rfl,fun _=>rfl,fun _ _=>rfl⟩
theorem A36:KOK .t156 Abq 156 3:=⟨fun _=>rfl,fun _=>rfl,fun _=>rfl,fun _ _=>rfl⟩
theorem A37:KOK .t160 Abr 160 3:=⟨fun _=>rfl,fun _=>rfl,fun _=>rfl,fun _ _=>rfl⟩
theorem A38:KOK .t166 Abs 166 5:=⟨fun _=>rfl,fun _=>rfl,fun _=>rfl,fun _ _=>rfl⟩
theorem A39:KOK .t172 Abt 172 3:=⟨fun _=>rfl,fun _=>rfl,fun _=>rfl,fun _ _=>rfl⟩
theorem A4a:KOK .t173 Amv 173 2:=⟨fun _=>rfl,fun _=>rfl,fun _=>rfl,fun _ _=>rfl⟩
theorem A4b:KOK .t184 Abu 184 3:=⟨fun _=>rfl,fun _=>rfl,fun _=>rfl,fun _ _=>rfl⟩
theorem A4c:KOK .t188 Amw 188 2:=⟨fun _=>rfl,fun _=>rfl,fun _=>rfl,fun _ _=>rfl⟩
theorem A4d:KOK .t190 Amx 190 5:=⟨fun _=>rfl,fun _=>rfl,fun _=>rfl,fun _ _=>rfl⟩
theorem A4e:KOK .t228 Abv 228 2:=⟨fun _=>rfl,fun _=>rfl,fun _=>rfl,fun _ _=>rfl⟩
theorem A4f:KOK .t234 Abw 234 3:=⟨fun _=>rfl,fun _=>rfl,fun _=>rfl,fun _ _=>rfl⟩
theorem LX.lit_spec(e:Nat)(rs:List (List PV))(x:LX)(h:LX.lit e rs=some x):x.e=e∧x.len=rs.length∧∀(i:Nat) (r:List PV),rs[i]? =some r→Cs r (x.row i):=by
 unfold LX.lit at h
 cases b3:Nat.beq e 3
 case true=>simp only [b3] at h;exact Yn k3 Azh b3 h
 simp only [b3] at h
 cases b4:Nat.beq e 4
 case true=>simp only [b4] at h;exact Yn k4 Azj b4 h
 simp only [b4] at h
 cases b9:Nat.beq e 9
 case true=>simp only [b9] at h;exact Yn k9 Azo b9 h
 simp only [b9] at h
 cases b23:Nat.beq e 23
 case true=>simp only [b23] at h;exact Yn k23 Avq b23 h
 simp only [b23] at h
 cases b27:Nat.beq e 27
 case true=>simp only [b27] at h;exact Yn k27 Avr b27 h
 simp only [b27] at h
 cases b32:Nat.beq e 32
 case true=>simp only [b32] at h;exact Yn k32 Avs b32 h
 simp only [b32] at h
 cases b38:Nat.beq e 38
 case true=>simp only [b38] at h;exact Yn k38 Avt b38 h
 simp only [b38] at h
 cases b41:Nat.beq e 41
 case true=>simp only [b41] at h;exact Yn k41 Avu b41 h
 simp only [b41] at h
 cases b68:Nat.beq e 68
 case true=>simp only [b68] at h;exact Yn k68 Avv b68 h
 simp only [b68] at h
 cases b72:Nat.beq e 72
 case true=>simp only [b72] at h;exact Yn k72 Avw b72 h
 simp only [b72] at h
 cases b74:Nat.beq e 74
 case true=>simp only [b74] at h;exact Yn k74 Avx b74 h
 simp only [b74] at h
 cases b82:Nat.beq e 82
 case true=>simp only [b82] at h;exact Yn k82 Avy b82 h
 simp only [b82] at h
 cases b149:Nat.beq e 149
 case true=>simp only [b149] at h;exact Yn A35 Api b149 h
 simp only [b149] at h
 cases b156:Nat.beq e 156
 case true=>simp only [b156] at h;exact Yn A36 Apj b156 h
 simp only [b156] at h
 cases b160:Nat.beq e 160
 case true=>simp only [b160] at h;exact Yn A37 Apk b160 h
 simp only [b160] at h
 cases b166:Nat.beq e 166
 case true=>simp only [b166] at h;exact Yn A38 Apl b166 h
 simp only [b166] at h
 cases b172:Nat.beq e 172
 case true=>simp only [b172] at h;exact Yn A39 Apm b172 h
 simp only [b172] at h
 cases b173:Nat.beq e 173
 case true=>simp only [b173] at h;exact Yn A4a Apn b173 h
 simp only [b173] at h
 cases b184:Nat.beq e 184
 case true=>simp only [b184] at h;exact Yn A4b Apo b184 h
 simp only [b184] at h
 cases b188:Nat.beq e 188
 case true=>simp only [b188] at h;exact Yn A4c Apq b188 h
 simp only [b188] at h
 cases b190:Nat.beq e 190
 case true=>simp only [b190] at h;exact Yn A4d Apr b190 h
 simp only [b190] at h
 cases b228:Nat.beq e 228
 case true=>simp only [b228] at h;exact Yn A4e Aps b228 h
 simp only [b228] at h
 cases b234:Nat.beq e 234
 case true=>simp only [b234] at h;exact Yn A4f Apt b234 h
 simp only [b234] at h
 cases h
theorem LX.cat_spec(x y z:LX)(h:x.cat y=some z):y.e=x.e∧z.e=x.e∧y.sz=x.sz∧z.sz=x.sz∧z.len=x.len+y.len∧(∀i,i < x.len→z.row i=x.row i)∧(∀i,z.row (x.len+i)=y.row i):=by
 cases x with
 |t3 l=>exact Ye k3 (LX.g3_eq y) h
 |t4 l=>exact Ye k4 (LX.g4_eq y) h
 |t9 l=>exact Ye k9 (LX.g9_eq y) h
 |t23 l=>exact Ye k23 (LX.g23_eq y) h
 |t27 l=>exact Ye k27 (LX.g27_eq y) h
 |t32 l=>exact Ye k32 (LX.g32_eq y) h
 |t38 l=>exact Ye k38 (LX.g38_eq y) h
 |t41 l=>exact Ye k41 (LX.g41_eq y) h
 |t68 l=>exact Ye k68 (LX.g68_eq y) h
 |t72 l=>exact Ye k72 (LX.g72_eq y) h
 |t74 l=>exact Ye k74 (LX.g74_eq y) h
 |t82 l=>exact Ye k82 (LX.g82_eq y) h
 |t149 l=>exact Ye A35 (LX.g149_eq y) h
 |t156 l=>exact Ye A36 (LX.g156_eq y) h
 |t160 l=>exact Ye A37 (LX.g160_eq y) h
 |t166 l=>exact Ye A38 (LX.g166_eq y) h
 |t172 l=>exact Ye A39 (LX.g172_eq y) h
 |t173 l=>exact Ye A4a (LX.g173_eq y) h
 |t184 l=>exact Ye A4b (LX.g184_eq y) h
 |t188 l=>exact Ye A4c (LX.g188_eq y) h
 |t190 l=>exact Ye A4d (LX.g190_eq y) h
 |t228 l=>exact Ye A4e (LX.g228_eq y) h
 |t234 l=>exact Ye A4f (LX.g234_eq y) h
theorem LX.sub_spec(x:LX)(a b:Nat)(h:b≤x.len):(x.sub a b).e=x.e∧(x.sub a b).sz=x.sz∧(x.sub a b).len=b - a∧∀i,i < b - a→(x.sub a b).row i=x.row (a+i):=by
 cases x with
 |t3 l=>exact Yy k3 l a b h
 |t4 l=>exact Yy k4 l a b h
 |t9 l=>exact Yy k9 l a b h
 |t23 l=>exact Yy k23 l a b h
 |t27 l=>exact Yy k27 l a b h
 |t32 l=>exact Yy k32 l a b h
 |t38 l=>exact Yy k38 l a b h
 |t41 l=>exact Yy k41 l a b h
 |t68 l=>exact Yy k68 l a b h
 |t72 l=>exact Yy k72 l a b h
 |t74 l=>exact Yy k74 l a b h
 |t82 l=>exact Yy k82 l a b h
 |t149 l=>exact Yy A35 l a b h
 |t156 l=>exact Yy A36 l a b h
 |t160 l=>exact Yy A37 l a b h
 |t166 l=>exact Yy A38 l a b h
 |t172 l=>exact Yy A39 l a b h
 |t173 l=>exact Yy A4a l a b h
 |t184 l=>exact Yy A4b l a b h
 |t188 l=>exact Yy A4c l a b h
 |t190 l=>exact Yy A4d l a b h
 |t228 l=>exact Yy A4e l a b h
 |t234 l=>exact Yy A4f l a b h
theorem LX.rep_spec(x:LX)(n:Nat):(x.rep n).e=x.e∧(x.rep n).sz=x.sz∧(x.rep n).len=n∧∀i,i < n→(x.rep n).row i=x.row 0:=by
 cases x with
 |t3 l=>exact Yw k3 l n
 |t4 l=>exact Yw k4 l n
 |t9 l=>exact Yw k9 l n
 |t23 l=>exact Yw k23 l n
 |t27 l=>exact Yw k27 l n
 |t32 l=>exact Yw k32 l n
 |t38 l=>exact Yw k38 l n
 |t41 l=>exact Yw k41 l n
 |t68 l=>exact Yw k68 l n
 |t72 l=>exact Yw k72 l n
 |t74 l=>exact Yw k74 l n
 |t82 l=>exact Yw k82 l n
 |t149 l=>exact Yw A35 l n
 |t156 l=>exact Yw A36 l n
 |t160 l=>exact Yw A37 l n
 |t166 l=>exact Yw A38 l n
 |t172 l=>exact Yw A39 l n
 |t173 l=>exact Yw A4a l n
 |t184 l=>exact Yw A4b l n
 |t188 l=>exact Yw A4c l n
 |t190 l=>exact Yw A4d l n
 |t228 l=>exact Yw A4e l n
 |t234 l=>exact Yw A4f l n
theorem Ayf(l:List PV):∀n,Jt l n=true↔n≤l.length:=by
 induction l with
 |nil=>intro n;cases n<;>simp [Jt]
 |cons p r ih=>intro n;cases n<;>simp [Jt,ih]
theorem Yx{α :Type} [Inhabited α]{K:List α→LX}{row: α→List PV}{e0 sz:Nat}(k:KOK K row e0 sz)(hz:∀a,(row a).length=sz){d:List PV→Option α}(hd:∀r a,d r=some a→Cs r (row a)){i off:Nat}{c:List PV}{l:List α}{y:LX}(h:Xd (Jt (row (l.getD i default)) (off+c.length)) (fun a=>K (l.set i a)) (d (G6 (row (l.getD i default)) off c))=some y):y.e=(K l).e∧y.sz=(K l).sz∧y.len=(K l).len∧off+c.length≤(K l).sz∧(i < (K l).len→Cs (G6 ((K l).row i) off c) (y.row i))∧∀j,j≠i→y.row j=(K l).row j:=by
 unfold Xd at h
 split at h
 ·rename_i a h1 h2
  injection h with h;subst h
  simp only [k.e,k.sz,k.len,k.row,true_and]
  refine ⟨List.length_set,by rw [←hz (l.getD i default)];exact (Ayf _ _).1 h1,fun hi=> ?_,fun j hj=> ?_⟩
  ·rw [Awc l i a hi]
   exact hd _ _ h2
  ·rw [Awd l i j a hj]
 ·cases h
theorem LX.set_spec(x:LX)(i off:Nat)(c:List PV)(y:LX)(h:LX.set x i off c=some y):y.e=x.e∧y.sz=x.sz∧y.len=x.len∧off+c.length≤x.sz∧(i < x.len→Cs (G6 (x.row i) off c) (y.row i))∧∀j,j≠i→y.row j=x.row j:=by
 cases x with
 |t3 l=>exact Yx k3 (fun _=>rfl) Azh h
 |t4 l=>exact Yx k4 (fun _=>rfl) Azj h
 |t9 l=>exact Yx k9 (fun _=>rfl) Azo h
 |t23 l=>exact Yx k23 (fun _=>rfl) Avq h
 |t27 l=>exact Yx k27 (fun _=>rfl) Avr h
 |t32 l=>exact Yx k32 (fun _=>rfl) Avs h
 |t38 l=>exact Yx k38 (fun _=>rfl) Avt h
 |t41 l=>exact Yx k41 (fun _=>rfl) Avu h
 |t68 l=>exact Yx k68 (fun _=>rfl) Avv h
 |t72 l=>exact Yx k72 (fun _=>rfl) Avw h
 |t74 l=>exact Yx k74 (fun _=>rfl) Avx h
 |t82 l=>exact Yx k82 (fun _=>rfl) Avy h
 |t149 l=>exact Yx A35 (fun _=>rfl) Api h
 |t156 l=>exact Yx A36 (fun _=>rfl) Apj h
 |t160 l=>exact Yx A37 (fun _=>rfl) Apk h
 |t166 l=>exact Yx A38 (fun _=>rfl) Apl h
 |t172 l=>exact Yx A39 (fun _=>rfl) Apm h
 |t173 l=>exact Yx A4a (fun _=>rfl) Apn h
 |t184 l=>exact Yx A4b (fun _=>rfl) Apo h
 |t188 l=>exact Yx A4c (fun _=>rfl) Apq h
 |t190 l=>exact Yx A4d (fun _=>rfl) Apr h
 |t228 l=>exact Yx A4e (fun _=>rfl) Aps h
 |t234 l=>exact Yx A4f (fun _=>rfl) Apt h
theorem Yk{α :Type} [Inhabited α]{l:List α}{p: α→Bool}{r:Option Nat}(h:l.findIdx? p=r):
  (r=none→∀i,i < l.length→p (l.getD i default)=false)∧(∀i,r=some i→i < l.length∧p (l.getD i default)=true∧∀j,j < i→p (l.getD j default)=false):=by
 subst h
 refine ⟨fun h i hi=> ?_,fun i h=> ?_⟩
 ·have:=List.findIdx?_eq_none_iff.1 h (l.getD i default) (by rw [Ro l i hi];exact List.getElem_mem hi)
  simpa using this
 ·obtain ⟨h1,h2,h3⟩:=List.findIdx?_eq_some_iff_getElem.1 h
  refine ⟨h1,by rw [Ro l i h1];exact h2,fun j hj=> ?_⟩
  rw [Ro l j (by omega)]
  simpa using h3 j hj
theorem LX.find_spec(x:LX)(c:List PV)(r:Option Nat)(h:LX.find x c=some r):(r=none→∀i,i < x.len→Zy c (x.row i)=some false)∧(∀i,r=some i→i < x.len∧Zy c (x.row i)=some true∧∀j,j < i→Zy c (x.row j)=some false):=by
 unfold LX.find at h
 split at h
 ·rename_i l k0 a0
  split at h
  ·rename_i hk0
   have e0:=of_decide_eq_true hk0
   subst e0
   injection h with h;subst h
   obtain ⟨s1,s2⟩:=Yk (rfl:l.findIdx? (fun b=>a0 == b)=_)
   have key:∀i b,(a0 == (l.getD i default))=b→Zy [.val (.int .i64 a0)] ((LX.t3 l).row i)=some b:=fun i b hb=>congrArg some hb
   exact ⟨fun hr i hi=>key _ _ (s1 hr i hi),fun i hr=>⟨(s2 i hr).1,key _ _ (s2 i hr).2.1,fun j hj=>key _ _ ((s2 i hr).2.2 j hj)⟩⟩
  ·cases h
 ·rename_i l a0
  injection h with h;subst h
  obtain ⟨s1,s2⟩:=Yk (rfl:l.findIdx? (fun b=>a0 == b)=_)
  have key:∀i b,(a0 == (l.getD i default))=b→Zy [.val (.bool a0)] ((LX.t4 l).row i)=some b:=fun i b hb=>congrArg some hb
  exact ⟨fun hr i hi=>key _ _ (s1 hr i hi),fun i hr=>⟨(s2 i hr).1,key _ _ (s2 i hr).2.1,fun j hj=>key _ _ ((s2 i hr).2.2 j hj)⟩⟩
 ·rename_i l a0
  injection h with h;subst h
  obtain ⟨s1,s2⟩:=Yk (rfl:l.findIdx? (fun b=>a0 == b)=_)
  have key:∀i b,(a0 == (l.getD i default))=b→Zy [.val (.string a0)] ((LX.t9 l).row i)=some b:=fun i b hb=>congrArg some hb
  exact ⟨fun hr i hi=>key _ _ (s1 hr i hi),fun i hr=>⟨(s2 i hr).1,key _ _ (s2 i hr).2.1,fun j hj=>key _ _ ((s2 i hr).2.2 j hj)⟩⟩
 ·rename_i l k0 a0
  split at h
  ·rename_i hk0
   have e0:=of_decide_eq_true hk0
   subst e0
   injection h with h;subst h
   obtain ⟨s1,s2⟩:=Yk (rfl:l.findIdx? (fun b=>a0 == b)=_)
   have key:∀i b,(a0 == (l.getD i default))=b→Zy [.val (.int .i64 a0)] ((LX.t41 l).row i)=some b:=fun i b hb=>congrArg some hb
   exact ⟨fun hr i hi=>key _ _ (s1 hr i hi),fun i hr=>⟨(s2 i hr).1,key _ _ (s2 i hr).2.1,fun j hj=>key _ _ ((s2 i hr).2.2 j hj)⟩⟩
  ·cases h
 ·rename_i l a0 a1
  injection h with h;subst h
  obtain ⟨s1,s2⟩:=Yk (rfl:l.findIdx? (fun b=>(a0 == b.a0 && (a1 == b.a1)))=_)
  have key:∀i b,((a0 == (l.getD i default).a0 && (a1 == (l.getD i default).a1)))=b→Zy [.val (.string a0),.val (.string a1)] ((LX.t173 l).row i)=some b:=fun i b hb=>congrArg some hb
  exact ⟨fun hr i hi=>key _ _ (s1 hr i hi),fun i hr=>⟨(s2 i hr).1,key _ _ (s2 i hr).2.1,fun j hj=>key _ _ ((s2 i hr).2.2 j hj)⟩⟩
 ·cases h
end Go.Proofs.YtcbandfdmbkokaaGreat.Ev
