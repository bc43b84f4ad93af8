/-  aQ the laid variables give. -/
import Derived.Test.YthjhkpgonleelaaGreatDoorLFz
import Derived.Test.YthjhkpgonleelaaGreatDoorTie
import Derived.LaidMore
import Derived.ChangeArms
import Derived.Lib.LaidTab
import Derived.Lib.ItoaNum
import Derived.Stop.Joined
set_option maxRecDepth 100000
set_option linter.unusedVariables false
set_option linter.unusedSimpArgs false
set_option linter.unnecessarySimpa false
namespace Go.Proofs.YthjhkpgonleelaaGreatDoor.Ev
open Go
def Bmm{H:Type}(x:Vf):DataW H:=.agg [.lit (.string x.gN.data.toList),.lit (.int .i64 x.fU),.lit (.int .i64 x.fZ),.lit (.bool x.u_c),.lit (.bool x.fH),.lit (.bool x.fM),.lit (.bool x.dF),.lit (.bool x.bO),.lit (.bool x.dV)]
def A7x(x:Vf):List Value:= [.string x.gN,.int .i64 x.fU,.int .i64 x.fZ,.bool x.u_c,.bool x.fH,.bool x.fM,.bool x.dF,.bool x.bO,.bool x.dV]
theorem Btr{H:Type} :(Rows.laid_simulator_code_forms:DataW H)=.slice (gl0.map Bmm) []:=rfl
theorem B0l{H:Type} :(Rows.laid_internal_strconv_uint64pow10:DataW H)=Lib.tabData .u64 Lib.pow10Tab:=by
 simp[Rows.laid_internal_strconv_uint64pow10,Lib.tabData,Lib.pow10Tab,List.range,List.range.loop]
theorem B67:ga1=Lib.pow10Tab.map λz=>Value.int .u64 z:=by simp[ga1,Lib.pow10Tab,List.range,List.range.loop]
theorem Bgf{H:Type}{P:Program}{enc:TypeId×Value->H}{w:World}{base:Nat}{sp:Nat->Bool}{held:Bool}{fuel t:Nat}{c:Value}{s:Yb}{q:List MemPlace}{y:DataW H×List MemPlace}(ht:P.underlying t=some .string)
  (h:DataW.trod enc P w base sp held fuel t [c]=some y)(hy:y.1=.lit (.string s.data.toList)):c=.string s:=by
 obtain⟨z,hc,rfl,_⟩:=DataW.trod_string ht h;injection hc with hc
 have hy:DataW.lit (.string z.data.toList)=(DataW.lit (.string s.data.toList):DataW H):=hy;injection hy with hy
 injection hy with hy
 rw[hc,show z=s by cases z;cases s;simp_all [Array.toList_inj]]
theorem Biv{H:Type}{P:Program}{enc:TypeId×Value->H}{w:World}{base:Nat}{sp:Nat->Bool}{held:Bool}{fuel t:Nat}{c:Value}{k:IntKind}{n:Int}{y:DataW H×List MemPlace}(ht:P.underlying t=some (.int k))
  (h:DataW.trod enc P w base sp held fuel t [c]=some y)(hy:y.1=.lit (.int k n)):c=.int k n:=by
 obtain⟨z,hc,rfl,_⟩:=DataW.trod_int ht h;injection hc with hc
 have hy:DataW.lit (.int k z)=(DataW.lit (.int k n):DataW H):=hy;injection hy with hy
 injection hy with _ hy
 rw[hc,hy]
theorem Amb{H:Type}{P:Program}{enc:TypeId×Value->H}{w:World}{base:Nat}{sp:Nat->Bool}{held:Bool}{fuel t:Nat}{c:Value}{n:Bool}{y:DataW H×List MemPlace}(ht:P.underlying t=some .bool)
  (h:DataW.trod enc P w base sp held fuel t [c]=some y)(hy:y.1=.lit (.bool n)):c=.bool n:=by
 obtain⟨z,hc,rfl⟩:=DataW.trod_bool ht h;injection hc with hc
 have hy:DataW.lit (.bool z)=(DataW.lit (.bool n):DataW H):=hy;injection hy with hy
 injection hy with hy
 rw[hc,hy]
theorem fld{P:Program}{α :Type}{r:Nat->List Value->Option α}{fs:Array Field}{cs:List Value}{xs:List α}(hf:∀(i:Nat) (f:Field),fs[i]? =some f->r f.type ((cs.drop f.offset).take (P.cellsOf f.type))=xs[i]?)
  (i t off:Nat)(h:(fs[i]?).map (λf=>(f.type,f.offset))=some (t,off))(hc:P.cellsOf t=1)(v:Value)(hv:cs[off]? =some v):r t [v]=xs[i]? :=by
 obtain⟨f,h1,h2⟩:=Option.map_eq_some_iff.1 h;injection h2 with h2 h3
 have:=hf i f h1;subst h2;subst h3
 rw[hc]at this;rw[<-this];obtain⟨hl,rfl⟩:=List.getElem?_eq_some_iff.1 hv;rw[List.drop_eq_getElem_cons hl];rfl
theorem Bsa{α :Type}(l:List α)(j:Nat)(d: α)(h:j<l.length):l[j]? =some (l.getD j d):=by simp[List.getD,h]
theorem Bj9{H:Type}{enc:TypeId×Value->H}{w:World}{base:Nat}{sp:Nat->Bool}{held:Bool}{fuel:Nat}{cs:List Value}{x:Vf}{q:List MemPlace}
  (h:DataW.trod enc Tryz.prog w base sp held fuel 190 cs=some (Bmm x,q)):cs=A7x x:=by
 obtain⟨xs,n,_,hx,hl,hlen,hf⟩:=DataW.trod_struct Tryz.underlying190 h;injection hx with hx _
 injection hx with hx
 rw[show Tryz.prog.cellsOf 190=9 by kernel_rfl]at hl;have c9: Tryz.prog.cellsOf 9=1:=by kernel_rfl
 have c8: Tryz.prog.cellsOf 188=1:=by kernel_rfl
 have c4: Tryz.prog.cellsOf 4=1:=by kernel_rfl
 match cs,hl,xs,hx with
 | [v0,v1,v2,v3,v4,v5,v6,v7,v8],_,[y0,y1,y2,y3,y4,y5,y6,y7,y8],hx=>
  simp only[List.map_cons,List.map_nil,List.cons.injEq,and_true]at hx;obtain⟨e0,e1,e2,e3,e4,e5,e6,e7,e8⟩:=hx;have f0:=fld hf 0 9 0 rfl c9 v0 rfl;have f1:=fld hf 1 188 1 rfl c8 v1 rfl;have f2:=fld hf 2 188 2 rfl c8 v2 rfl;have f3:=fld hf 3 4 3 rfl c4 v3 rfl;have f4:=fld hf 4 4 4 rfl c4 v4 rfl
  have f5:=fld hf 5 4 5 rfl c4 v5 rfl;have f6:=fld hf 6 4 6 rfl c4 v6 rfl;have f7:=fld hf 7 4 7 rfl c4 v7 rfl;have f8:=fld hf 8 4 8 rfl c4 v8 rfl
  rw[Bgf (q:=q) Tryz.underlying9 f0 e0.symm,Biv Tryz.underlying188 f1 e1.symm,Biv Tryz.underlying188 f2 e2.symm,Amb Tryz.underlying4 f3 e3.symm,Amb Tryz.underlying4 f4 e4.symm,
   Amb Tryz.underlying4 f5 e5.symm,Amb Tryz.underlying4 f6 e6.symm,Amb Tryz.underlying4 f7 e7.symm,Amb Tryz.underlying4 f8 e8.symm]
  rfl
theorem Bf7{W:World}(h:laidMetH Tryz.prog [("math/bits.deBruijn32tab",Rows.laid_math_bits_deBruijn32tab),("math/bits.deBruijn64tab",Rows.laid_math_bits_deBruijn64tab),("internal/strconv.uint64pow10",Rows.laid_internal_strconv_uint64pow10),("simulator/code.forms",Rows.laid_simulator_code_forms)] W):Atd (λ_=>none) (Gs.all W):=by
 have h':laidMet Tryz.prog [("math/bits.deBruijn32tab",Rows.laid_math_bits_deBruijn32tab),("math/bits.deBruijn64tab",Rows.laid_math_bits_deBruijn64tab),("internal/strconv.uint64pow10",Rows.laid_internal_strconv_uint64pow10),("simulator/code.forms",Rows.laid_simulator_code_forms)] W:=h;obtain⟨ps,⟨_,_,_,_,_,_,_,_,_,_,⟨_,_,_,_,_,_,_,_,_,_,⟨g1,t1,cs1,fuel1,p1,q1,hg1,ht1,hv1,hd1,⟨g0,t0,cs0,fuel0,p0,q0,hg0,ht0,hv0,hd0,_,_⟩,_⟩,_⟩,_⟩,_,_⟩:=h';obtain rfl:=Option.some.inj ((show Tryz.prog.globalNamed "internal/strconv.uint64pow10" =some 1 by kernel_rfl).symm.trans hg1);obtain rfl:=Option.some.inj ((show(Tryz.prog.globals[1]?).map (·.type)=some 255 by kernel_rfl).symm.trans ht1);obtain rfl:=Option.some.inj ((show Tryz.prog.globalNamed "simulator/code.forms" =some 0 by kernel_rfl).symm.trans hg0);obtain rfl:=Option.some.inj ((show(Tryz.prog.globals[0]?).map (·.type)=some 191 by kernel_rfl).symm.trans ht0);have hlt:∀(ad:Addr) (v:Value),W.cell? ad=some v->ad.block<W.heap.size:=by
  intro ad v hv;unfold World.cell? at hv;by_cases hb:ad.block<W.heap.size
  ·exact hb
  ·rw[Array.getElem?_eq_none (by omega)]at hv;simp at hv
 rw[B0l]at hd1;have hcs1:=Lib.cells_of_tab Tryz.underlying255 Tryz.underlying234 (by kernel_rfl) (by kernel_rfl) hd1;have htab:∃t f,W.heap[1]? =some (.cells ga1.toArray t f):=by
  unfold World.var? at hv1;rw[hg1,Option.bind_some]at hv1;cases hb:W.heap[1]? with
  |none=>rw[hb]at hv1;cases hv1
  |some o=>
   rw[hb]at hv1;cases o with
   |cells cs t f=>
    injection hv1 with hv1
    subst hv1;exact⟨t,f,by rw[B67,<-hcs1]⟩
   |_=>cases hv1
 rw[Btr]at hd0;rcases DataW.trod_slice Tryz.underlying191 hd0 with⟨_,hx⟩|⟨a,len,cap,Ai8,rest,n,_,hcs,hx,_,hl,_,hlen,hel,_⟩
 ·simp at hx
 simp only[Prod.mk.injEq,DataW.slice.injEq]at hx;obtain⟨⟨hx,_⟩,_⟩:=hx;have hln:len=20:=by
  have:=congrArg List.length hx;rw[List.length_map,List.length_map,hlen]at this;exact this.symm
 subst hln;have h0:W.cell? ⟨0,0,none⟩=some (.slice (some a) 20 cap):=by
  have e:cs0= #[.slice (some a) 20 cap]:=by
   apply Array.ext';rw[hcs]
  subst e;simpa using World.var?_cell (show Tryz.prog.globalNamed "simulator/code.forms" =some 0 by kernel_rfl) hv0 0
 have hcl:∀i,i<20->∀j v,(A7x (gl0.getD i default))[j]? =some v->W.cell? (a.add (i*9+j))=some v:=by
  intro i hi j v hj;have hE:=hel i hi;rw[show Tryz.prog.cellsOf 190=9 by kernel_rfl]at hE;have hy:(Ai8.map (·.1))[i]? =some (Bmm (gl0.getD i default)):=by
   rw[<-hx];have hl:i<gl0.length:=hi;rw[List.getElem?_map,List.getElem?_eq_getElem hl,List.getD_eq_getElem?_getD,List.getElem?_eq_getElem hl];rfl
  rw[List.getElem?_map]at hy;cases he:Ai8[i]? with
  |none=>rw[he]at hy;cases hy
  |some y=>
   rw[he]at hE hy;injection hy with hy
   simp only[Option.bind_eq_some_iff]at hE;obtain⟨cs,hc,ht⟩:=hE;obtain⟨y1,y2⟩:=y;subst hy;have:=Bj9 ht;subst this;unfold World.cells? at hc;split at hc
   ·have h9:=Lib.mapM_at hc j j (by
     have:j<(A7x (gl0.getD i default)).length:=(List.getElem?_eq_some_iff.1 hj).1;rw[show(A7x (gl0.getD i default)).length=9 from rfl]at this;simp[this])
    obtain⟨b,hb,hf⟩:=h9;rw[hj]at hb;injection hb with hb
    subst hb;rw[<-Au9];exact hf
   ·cases hc
 refine⟨λb=>if b<W.heap.size then none else some 0,λad hi=>⟨?_,λn hn=>by cases hn⟩,λg x hg=>?_,λg vs hg=>?_⟩
 ·show ad.block<W.heap.size
  by_cases hb:ad.block<W.heap.size
  ·exact hb
  ·have:=hi 0 (by dsimp only;rw[if_neg hb]);omega
 ·obtain⟨rfl,rfl⟩:g=0/\x=.fB gl0:=by
   unfold GL A37 at hg;split at hg
   ·rename_i he;exact⟨(Nat.eq_of_beq_eq_true he).symm,(Option.some.inj hg).symm⟩
   ·cases hg
  refine⟨hlt _ _ h0,_,h0,?_⟩;have key:=B2.row (w:=W) (M:=λb=>if b<W.heap.size then none else some 0) (β :=λ_=>none) (B:=λ_=>False) (.bA false (.fB gl0)) ⟨false,190,9,20,(LX.fB gl0).row⟩ rfl (some a) cap (λi j=>(A7x (gl0.getD i default)).getD j undef)
   hl (λi hi=>rfl) (λi hi=>⟨a,rfl⟩) (λad i j p had hi hp=>?_) (λi j p hi hp=>?_)
  ·exact key
  ·obtain rfl:=Option.some.inj had;have hj:j<9:=by
    have:=(List.getElem?_eq_some_iff.1 hp).1;exact this
   have hc':=hcl i hi j ((A7x (gl0.getD i default)).getD j undef) (Bsa _ _ _ hj);refine⟨λn hn=>?_,hc',?_⟩
   ·dsimp only at hn;rw[if_pos (hlt _ _ hc')]at hn;cases hn
   ·match j,hj with
    |0,_=>rfl
    |1,_=>rfl
    |2,_=>rfl
    |3,_=>rfl
    |4,_=>rfl
    |5,_=>rfl
    |6,_=>rfl
    |7,_=>rfl
    |8,_=>rfl
  ·have hj:j<9:=by
    have:=(List.getElem?_eq_some_iff.1 hp).1;exact this
   match j,hj,hp with
   |0,_,hp=>obtain rfl:=Option.some.inj hp;exact .val _ rfl
   |1,_,hp=>obtain rfl:=Option.some.inj hp;exact .val _ rfl
   |2,_,hp=>obtain rfl:=Option.some.inj hp;exact .val _ rfl
   |3,_,hp=>obtain rfl:=Option.some.inj hp;exact .val _ rfl
   |4,_,hp=>obtain rfl:=Option.some.inj hp;exact .val _ rfl
   |5,_,hp=>obtain rfl:=Option.some.inj hp;exact .val _ rfl
   |6,_,hp=>obtain rfl:=Option.some.inj hp;exact .val _ rfl
   |7,_,hp=>obtain rfl:=Option.some.inj hp;exact .val _ rfl
   |8,_,hp=>obtain rfl:=Option.some.inj hp;exact .val _ rfl
 ·obtain⟨rfl,rfl⟩:g=1/\vs=ga1:=by
   unfold GA at hg;simp only[List.mem_cons,List.not_mem_nil,or_false,Prod.mk.injEq]at hg;exact hg
  obtain⟨t,f,hb⟩:=htab;refine⟨?_,t,f,hb⟩;show 1<W.heap.size
  exact(Array.getElem?_eq_some_iff.1 hb).1
theorem Bmb(os:Os)(args:Array Value):laidMetH Tryz.prog [("math/bits.deBruijn32tab",Rows.laid_math_bits_deBruijn32tab),("math/bits.deBruijn64tab",Rows.laid_math_bits_deBruijn64tab),("internal/strconv.uint64pow10",Rows.laid_internal_strconv_uint64pow10),("simulator/code.forms",Rows.laid_simulator_code_forms)] ((World.doorLaid Tryz.prog 400 os).forCall (λ_ _=>0) ⟨#[],args,[]⟩).memory:=
 laidMet_of_run' 8 (by kernel_rfl) (by kernel_rfl)
end Go.Proofs.YthjhkpgonleelaaGreatDoor.Ev
