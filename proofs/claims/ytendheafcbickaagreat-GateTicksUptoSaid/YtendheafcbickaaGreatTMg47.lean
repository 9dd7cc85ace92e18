/-
  SEVERAL TEXTS IN ONE: each with its own comment.
-/
import Derived.Test.YtendheafcbickaaGreatTZip
import Derived.Test.YtendheafcbickaaGreatTGo
import Derived.Test.YtendheafcbickaaGreatTMg39
import Derived.Test.YtendheafcbickaaGreatTMg46
import Derived.Test.YtendheafcbickaaGreatRows
import Derived.WalkKit
import Derived.ProofKit
import Derived.WalkSpells
import Derived.WalkLawsBesides
import Derived.OpenShut
import Derived.ShutString
import Derived.ChangeOld
import Derived.Below
import Derived.SizedLaws
import Derived.Deep.Slices
import Derived.Test.YtendheafcbickaaGreatTEnc
set_option linter.unusedVariables false
set_option linter.unusedSimpArgs false
set_option maxHeartbeats 16000000
namespace Go.Proofs.YtendheafcbickaaGreat
section
set_option maxRecDepth 100000
attribute [local irreducible] cq a8 bw GStep Fn cu bk cU
theorem Jj {z:Int} (h:aF z):(Lit.int .i64 z).wf=true:=by
 unfold aF at h
 unfold Lit.wf
 rw[Bool.and_eq_true,decide_eq_true_eq,decide_eq_true_eq]
 show(-9223372036854775808:Int)<=z/\z<=9223372036854775807
 omega
noncomputable def mP:Array Field:=match Tryz.prog.underlying 25 with|some (.struct dA)=>dA|_=>#[]
theorem QT {d:Nat} {t:TypeId} (b:Bool) (h:Tryz.prog.underlying t=some .bool):Tryz.prog.keyLits (d+1) t [.bool b]=some [.bool b]:=by
 unfold Program.keyLits
 rw[h]
theorem Jk {d:Nat} {t:TypeId} (z:Int) (h:Tryz.prog.underlying t=some (.int .i64)) (bh:(Lit.int .i64 z).wf=true):Tryz.prog.keyLits (d+1) t [.int .i64 z]=some [.int .i64 z]:=by
 unfold Program.keyLits
 rw[h]
 exact if_pos ⟨rfl,bh⟩
theorem QU {d:Nat} (b:Bool) (x y:Int) (U:(Lit.int .i64 x).wf=true) (ai:(Lit.int .i64 y).wf=true):Tryz.prog.keyLits (d+2) 25 [.bool b,.int .i64 x,.int .i64 y]=some [.bool b,.int .i64 x,.int .i64 y]:=by
 have aq:mP.toList=[mP.getD 0 default,mP.getD 1 default,mP.getD 2 default]:=by kernel_rfl
 have b8:Tryz.prog.keyLits (d+1) (mP.getD 0 default).type ((([.bool b,.int .i64 x,.int .i64 y]:List Value).drop (mP.getD 0 default).offset).take (Tryz.prog.cellsOf (mP.getD 0 default).type))=some [.bool b]:=QT b ae
 have aH:Tryz.prog.keyLits (d+1) (mP.getD 1 default).type ((([.bool b,.int .i64 x,.int .i64 y]:List Value).drop (mP.getD 1 default).offset).take (Tryz.prog.cellsOf (mP.getD 1 default).type))=some [.int .i64 x]:=Jk x ae U
 have aN:Tryz.prog.keyLits (d+1) (mP.getD 2 default).type ((([.bool b,.int .i64 x,.int .i64 y]:List Value).drop (mP.getD 2 default).offset).take (Tryz.prog.cellsOf (mP.getD 2 default).type))=some [.int .i64 y]:=Jk y ae ai
 unfold Program.keyLits
 rw[show Tryz.prog.underlying 25 = some (.struct mP) from by kernel_rfl]
 dsimp only
 rw[if_pos ⟨by kernel_rfl,by kernel_rfl⟩,aq]
 simp only[List.mapM_cons,List.mapM_nil,b8,aH,aN]
 rfl
theorem QV (t:Nat->fR) (ht:∀ i,gL (t i)):Tryz.prog.keyLits 5 26 [.bool (t 0).bO,.int .i64 (t 0).bM,.int .i64 (t 0).az,.bool (t 1).bO,.int .i64 (t 1).bM,.int .i64 (t 1).az,.bool (t 2).bO,.int .i64 (t 2).bM,.int .i64 (t 2).az,.bool (t 3).bO,.int .i64 (t 3).bM,.int .i64 (t 3).az] =
  some [.bool (t 0).bO,.int .i64 (t 0).bM,.int .i64 (t 0).az,.bool (t 1).bO,.int .i64 (t 1).bM,.int .i64 (t 1).az,.bool (t 2).bO,.int .i64 (t 2).bM,.int .i64 (t 2).az,.bool (t 3).bO,.int .i64 (t 3).bM,.int .i64 (t 3).az]:=by
 have e:=fun i=>QU (d:=2) (t i).bO (t i).bM (t i).az (Jj (ht i).1) (Jj (ht i).2)
 have b8:=e 0
 have aH:=e 1
 have aN:=e 2
 have bS:=e 3
 unfold Program.keyLits
 rw[show Tryz.prog.underlying 26 = some (.array 4 25) from by kernel_rfl]
 dsimp only
 rw[if_pos ae,show List.range 4=[0,1,2,3] from rfl,show Tryz.prog.cellsOf 25 = 3 from by kernel_rfl]
 simp only[List.mapM_cons,List.mapM_nil,Nat.zero_mul,Nat.one_mul,Nat.reduceMul,List.drop_succ_cons,List.drop_zero,List.take_succ_cons,List.take_zero,b8,aH,aN,bS]
 rfl
theorem Of (g:cl) (aV:∀ i,gL (fy g i)) (hw:∀ y ∈ g.bb,hY y) (aq:g.bb.length<=1000000):Fn Tryz.prog 12 [.agg (fU g),.agg (fU g)] (.lit (.bool true)):=by
 have ct:=QV (fy g) aV
 clear aV
 generalize fA:fU g=Z
 unfold fU at fA
 subst fA
 refine aU ae Tryz.func12 rfl ae ?_
 refine iv ?_
 refine lb ?_
 (repeat' first|(refine ni ?_;((repeat' first|exact True.intro|refine R.mk ?_ ?_);all_goals intros))|fail "")
 refine lc ?_
 refine fG (fun _:Unit=>⟨[(2,.ptr 0 0 0 0),(3,.ptr 1 0 0 0),(5,.lit (.bool true))],[(0,some (.box 28 [.lit (.int .u64 g.iQ),.lit (.int .i64 g.b4),.lit (.int .i64 g.Next),.ro (g.bb.map cQ),.lit (.bool g.c1.bO),.lit (.int .i64 g.c1.bM),.lit (.int .i64 g.c1.az),.lit (.bool g.c2.bO),.lit (.int .i64 g.c2.bM),.lit (.int .i64 g.c2.az),.lit (.bool g.c3.bO),.lit (.int .i64 g.c3.bM),.lit (.int .i64 g.c3.az),.lit (.bool g.c4.bO),.lit (.int .i64 g.c4.bM),.lit (.int .i64 g.c4.az),.lit (.bool g.jN),.lit (.int .i64 g.hR)])),(1,some (.box 28 [.lit (.int .u64 g.iQ),.lit (.int .i64 g.b4),.lit (.int .i64 g.Next),.ro (g.bb.map cQ),.lit (.bool g.c1.bO),.lit (.int .i64 g.c1.bM),.lit (.int .i64 g.c1.az),.lit (.bool g.c2.bO),.lit (.int .i64 g.c2.bM),.lit (.int .i64 g.c2.az),.lit (.bool g.c3.bO),.lit (.int .i64 g.c3.bM),.lit (.int .i64 g.c3.az),.lit (.bool g.c4.bO),.lit (.int .i64 g.c4.bM),.lit (.int .i64 g.c4.az),.lit (.bool g.jN),.lit (.int .i64 g.hR)]))],2,Tryz.f12.ntmps⟩) (fun _=>True) ?_ ?_
 ·cases hr:g.jN
  all_goals (repeat' first|refine bB (hq:=QW (us:=[.bool g.c1.bO,.int .i64 g.c1.bM,.int .i64 g.c1.az,.bool g.c2.bO,.int .i64 g.c2.bM,.int .i64 g.c2.az,.bool g.c3.bO,.int .i64 g.c3.bM,.int .i64 g.c3.az,.bool g.c4.bO,.int .i64 g.c4.bM,.int .i64 g.c4.az]) (la:=[.bool g.c1.bO,.int .i64 g.c1.bM,.int .i64 g.c1.az,.bool g.c2.bO,.int .i64 g.c2.bM,.int .i64 g.c2.az,.bool g.c3.bO,.int .i64 g.c3.bM,.int .i64 g.c3.az,.bool g.c4.bO,.int .i64 g.c4.bM,.int .i64 g.c4.az]) rfl rfl rfl ae ae ae ct) (h:=?_)|(refine fc ?_;((repeat' first|exact True.intro|refine R.mk ?_ ?_);all_goals intros))|refine bB (h:=?_)|refine bB (hq:=eo rfl rfl rfl ew ey rfl rfl rfl rfl) (h:=?_)|refine da (h:=?_)|refine dJ (h:=?_)|refine ep (h:=?_)|refine ez (h:=?_)|refine eA (h:=?_)|refine eB (h:=?_)|refine eC (h:=?_)|refine eD (h:=?_)|(refine dS rfl ?_ (h:=?_);(exact bP))|(refine dT rfl ?_ (h:=?_);(exact bP))|fail "")
  all_goals first
   | (refine ⟨(),?_,?_⟩;rotate_left 1;(exact ax);(exact jt))
   | skip
 rintro ⟨⟩ -
 (repeat' first|(refine ab ?_;((repeat' first|exact True.intro|refine R.mk ?_ ?_);all_goals intros))|fail "")
 refine b2 (fun k:Nat=>⟨[(2,.ptr 0 0 0 0),(3,.ptr 1 0 0 0),(5,.lit (.bool true)),(6,.lit (.int .i64 k))],[(0,some (.box 28 [.lit (.int .u64 g.iQ),.lit (.int .i64 g.b4),.lit (.int .i64 g.Next),.ro (g.bb.map cQ),.lit (.bool g.c1.bO),.lit (.int .i64 g.c1.bM),.lit (.int .i64 g.c1.az),.lit (.bool g.c2.bO),.lit (.int .i64 g.c2.bM),.lit (.int .i64 g.c2.az),.lit (.bool g.c3.bO),.lit (.int .i64 g.c3.bM),.lit (.int .i64 g.c3.az),.lit (.bool g.c4.bO),.lit (.int .i64 g.c4.bM),.lit (.int .i64 g.c4.az),.lit (.bool g.jN),.lit (.int .i64 g.hR)])),(1,some (.box 28 [.lit (.int .u64 g.iQ),.lit (.int .i64 g.b4),.lit (.int .i64 g.Next),.ro (g.bb.map cQ),.lit (.bool g.c1.bO),.lit (.int .i64 g.c1.bM),.lit (.int .i64 g.c1.az),.lit (.bool g.c2.bO),.lit (.int .i64 g.c2.bM),.lit (.int .i64 g.c2.az),.lit (.bool g.c3.bO),.lit (.int .i64 g.c3.bM),.lit (.int .i64 g.c3.az),.lit (.bool g.c4.bO),.lit (.int .i64 g.c4.bM),.lit (.int .i64 g.c4.az),.lit (.bool g.jN),.lit (.int .i64 g.hR)]))],2,Tryz.f12.ntmps⟩) (fun k=>k<=g.bb.length) (fun k=>g.bb.length - k) 0 (Nat.zero_le _) gf ?_
 intro k ag
 by_cases aJ:k<g.bb.length
 ·have I:=QX (g.bb.getD k default).bX (hw _ (cY aJ)).2.2.2.2
  cases sn:(g.bb.getD k default).zd
  all_goals (repeat' first|(refine ar (I) (h:=?_))|(refine au (I) (h:=?_))|(refine ab ?_;((repeat' first|exact True.intro|refine R.mk ?_ ?_);all_goals intros))|fail "")
  all_goals first
   | (refine ⟨k+1,?_,?_,?_⟩;rotate_left 2;(exact ax);(exact bN);(exact gI))
   | skip
 ·have ct:k=g.bb.length:=by omega
  subst ct
  (repeat' first|(refine ab ?_;((repeat' first|exact True.intro|refine R.mk ?_ ?_);all_goals intros))|fail "")
  all_goals first
   | exact bt (hr:=rfl)
   | skip
theorem Og (l:List dG) (aq:l.length<=1000):Fn Tryz.prog 13 [.ro (l.map dc),.ro (l.map dc)] (.lit (.bool true)):=by
 refine aU ae Tryz.func13 rfl ae ?_
 (repeat' first|(refine ab ?_;((repeat' first|exact True.intro|refine R.mk ?_ ?_);all_goals intros))|fail "")
 all_goals try (exfalso;omega)
 refine b2 (fun k:Nat=>⟨[(0,.ro (l.map dc)),(1,.ro (l.map dc)),(5,.lit (.bool true)),(6,.lit (.int .i64 k))],[],0,Tryz.f13.ntmps⟩)
  (fun k=>k<=l.length) (fun k=>l.length - k) 0 (Nat.zero_le _) du ?_
 intro k ag
 by_cases aJ:k<l.length
 ·have J:=uk (l.getD k default).Data (l.getD k default).Data
  rw[nh rfl] at J
  (repeat' first|(refine ar (J) (h:=?_))|(refine au (J) (h:=?_))|(refine ab ?_;((repeat' first|exact True.intro|refine R.mk ?_ ?_);all_goals intros))|fail "")
  all_goals first
   | (refine ⟨k+1,?_,?_,?_⟩;rotate_left 2;(exact ax);(exact bN);(exact gI))
   | skip
 ·(repeat' first|(refine ab ?_;((repeat' first|exact True.intro|refine R.mk ?_ ?_);all_goals intros))|fail "")
  all_goals first
   | exact bt (hr:=rfl)
   | skip
theorem Hl (i:Nat):gL (fy default i):=by
 match i with
 | 0|1|2|n+3=>exact(show aF 0/\aF 0 from by unfold aF;decide)
theorem Hm:∀ y ∈ (default:cl).bb,hY y:=fun y ai=>by cases ai
end
section
open Go.ChangeShapes Go.WideShapes Go.ChangeAt Go.RowKit Go.Deep
def Cells (P:Program) (W:World) (t:TypeId) (cs:List Value):Prop:=
 ∃ (H:Type) (enc:TypeId×Value->H) (k0:Nat) (x:DataW H×List MemPlace),
  DataW.trod enc P W 0 (fun _=>true) true k0 t cs=some x /\ ∀ n ∈ x.1.weights P t,n<=reachBytes
def jR (P:Program) (W:World) (t:TypeId) (v:Value):Prop:=
 (∃ base,Value.okWide P W .any base t v)/\Cells P W t v.cells.toList
def oL (P:Program) (W:World):List TypeId->List Value->Prop
 | [],vs=>vs=[]
 | t :: ts,vs=>∃ v cc,vs=v :: cc /\ jR P W t v/\oL P W ts cc
section
variable {P:Program} {W:World} {t e:TypeId} {v:Value} {cs:List Value}
theorem Cells.cP {k:IntKind} (hu:P.underlying t=some (.int k)) (h:Cells P W t cs):∃ n,cs=[.int k n]/\(Lit.int k n).wf=true:=by
 obtain ⟨H,enc,k0,x,U,_⟩:=h
 obtain ⟨n,I,_,av⟩:=DataW.trod_int hu U
 exact⟨n,I,av⟩
theorem Cells.il (hu:P.underlying t=some .bool) (h:Cells P W t cs):∃ b:Bool,cs=[.bool b]:=by
 obtain ⟨H,enc,k0,x,U,_⟩:=h
 obtain ⟨n,I,_⟩:=DataW.trod_bool hu U
 exact⟨n,I⟩
theorem DR {H:Type} {P:Program} {e:TypeId}:∀ {ds:List (DataW H)} {d:DataW H},d ∈ ds -> ∀ n ∈ d.weights P e,n ∈ DataW.weightsAll P e ds
 | [],_,h,_,_=>by cases h
 | d0 :: ds,d,h,n,hn=>by
  simp only[DataW.weightsAll,List.mem_append]
  rcases List.mem_cons.1 h with rfl|h
  ·exact .inl hn
  ·exact .inr (DR h n hn)
theorem Cells.wH (hu:P.underlying t=some (.slice e)) (h:Cells P W t cs) :
  (cs=[.slice none 0 0]) \/ ∃ (a:Addr) (len cap:Nat),cs=[.slice (some a) len cap]/\len<=cap/\cap<=maxLen/\cap * P.bytesOf e<=reachBytes /\
   ∀ i,i<cap -> ∃ es,es.length=P.cellsOf e/\(∀ j,j<P.cellsOf e->W.cell? ((a.add (i * P.cellsOf e)).add j)=es[j]?)/\Cells P W e es:=by
 obtain ⟨H,enc,k0,x,U,hw⟩:=h
 rcases open_slice hu U with af | ⟨a,len,cap,m,n,D,QY,iW,_,aq,hm,wI,DS,hi⟩
 ·exact .inl af.1
 ·simp only[if_true] at wI
  subst wI
  subst DS
  refine .inr ⟨a,len,m,iW,aq,hm,?_,fun i DT=>?_⟩
  ·have:=hw ((len+(m - len)) * P.bytesOf e) (by simp[DataW.weights,hu])
   rwa [show len+(m - len)=m by omega] at this
  ·obtain ⟨es,hc,ht⟩:=hi i DT
   obtain ⟨_,sY,ga⟩:=World.cells?_some hc
   refine ⟨es,sY,ga,H,enc,n,_,ht,fun wJ As=>hw wJ ?_⟩
   simp only[DataW.weights,hu,List.mem_cons,List.mem_append]
   right
   by_cases ou:i<len
   ·exact .inl (DR (List.mem_map.2 ⟨i,List.mem_range.2 ou,rfl⟩) _ As)
   ·exact .inr (DR (List.mem_map.2 ⟨i - len,List.mem_range.2 (by omega),by rw[show len+(i - len)=i by omega]⟩) _ As)
theorem Cells.gV {dA:Array Field} (hu:P.underlying t=some (.struct dA)) (h:Cells P W t cs) :
  cs.length=P.cellsOf t /\ ∀ (i:Nat) (f:Field),dA[i]? = some f->Cells P W f.type ((cs.drop f.offset).take (P.cellsOf f.type)):=by
 obtain ⟨H,enc,k0,x,U,hw⟩:=h
 obtain ⟨xs,n,_,rfl,aq,hlen,hf⟩:=DataW.trod_struct hu U
 refine ⟨aq,fun i f hi=>?_⟩
 have cj:i<xs.length:=by rw[hlen];exact(Array.getElem?_eq_some_iff.1 hi).1
 have I:=hf i f hi
 rw[List.getElem?_eq_getElem cj] at I
 refine ⟨H,enc,n,_,I,fun wJ As=>hw wJ ?_⟩
 simp only[DataW.weights,hu]
 exact DataW.weights_mem_each (j:=i) (t:=f.type) (d:=xs[i].1) (by simp[<- Array.getElem?_toList] at hi ⊢;exact⟨f,hi,rfl⟩) (by simp[cj]) _ As
theorem jR.cP {k:IntKind} (hu:P.underlying t=some (.int k)) (h:jR P W t v):∃ n,v = .int k n/\(Lit.int k n).wf=true:=by
 obtain ⟨⟨b,hb⟩,hc⟩:=h
 obtain ⟨n,rfl⟩:=okWide_int hu hb
 obtain ⟨wJ,I,J⟩:=hc.cP hu
 simp[Value.cells] at I
 subst I
 exact⟨n,rfl,J⟩
theorem jR.il (hu:P.underlying t=some .bool) (h:jR P W t v):∃ b:Bool,v = .bool b:=by
 obtain ⟨⟨b,hb⟩,hc⟩:=h
 exact okWide_bool hu hb
theorem jR.wH (hu:P.underlying t=some (.slice e)) (h:jR P W t v):∃ a n c,v = .slice a n c/\Cells P W t [.slice a n c]:=by
 obtain ⟨⟨b,hb⟩,hc⟩:=h
 obtain ⟨a,n,c,rfl⟩:=okWide_slice hu hb
 exact⟨a,n,c,rfl,by simpa[Value.cells] using hc⟩
theorem jR.gV {dA:Array Field} (hu:P.underlying t=some (.struct dA)) (h:jR P W t v):∃ cs:List Value,v = .agg cs.toArray/\Cells P W t cs:=by
 obtain ⟨⟨b,hb⟩,hc⟩:=h
 obtain ⟨cs,rfl,_⟩:=okWide_struct hu hb
 exact⟨cs.toList,by simp,by simpa[Value.cells] using hc⟩
end
theorem DU {H:Type} {enc:TypeId×Value->H} {P:Program} (aq:laidOutB P=true) {W nU:World} (hb:Below W.heap.size W nU) :
  ∀ {ts:List TypeId} {vs:List Value} {ds:List (DataW H)} {bK:List MemPlace},(∀ t ∈ ts,P.readableRec t=true/\t<P.types.size) ->
   DataW.TrodAll enc P W 0 (fun _=>true) true ts vs ds bK->DataW.TrodAll enc P nU 0 (fun b=>decide (b<W.heap.size)) true ts vs ds bK
 | [],vs,ds,bK,_,h=>by cases vs <;> cases ds <;> simp_all [DataW.TrodAll]
 | t :: ts,vs,ds,bK,hr,h=>by
  obtain ⟨v,cc,d,Au,p,q,rfl,rfl,rfl,I,J⟩:=trodAll_cons h
  have cj:∀ x ∈ p,x.block<W.heap.size:=by
   obtain ⟨m,hm⟩:=I
   exact DataW.trod_lt m _ _ _ hm
  exact trodAll_cons_mk (Below.trod aq (hr t (by simp)).1 (hr t (by simp)).2 I hb cj) (DU aq hb (fun qn ht=>hr qn (by simp[ht])) J)
theorem wK {H:Type} {enc:TypeId×Value->H} {P:Program} {W:World} :
  ∀ {ts:List TypeId} {vs:List Value} {ds:List (DataW H)} {bK:List MemPlace},(∀ (j:Nat) t v,ts[j]? = some t->vs[j]? = some v -> ∃ base,Value.okWide P W .any base t v) ->
   (∀ n ∈ DataW.weightsEach P ts ds,n<=reachBytes)->DataW.TrodAll enc P W 0 (fun _=>true) true ts vs ds bK->oL P W ts vs
 | [],vs,ds,bK,_,_,h=>by cases vs <;> cases ds <;> simp_all [DataW.TrodAll,oL]
 | t :: ts,vs,ds,bK,hv,hw,h=>by
  obtain ⟨v,cc,d,Au,p,q,rfl,rfl,rfl,I,J⟩:=trodAll_cons h
  refine ⟨v,cc,rfl,⟨hv 0 t v rfl rfl,?_⟩,wK (fun j qn cX av bl=>hv (j+1) qn cX (by simpa using av) (by simpa using bl)) (fun n hn=>hw n (by simp[DataW.weightsEach,hn])) J⟩
  obtain ⟨m,hm⟩:=I
  exact⟨H,enc,m,_,hm,fun n hn=>hw n (by simp[DataW.weightsEach,hn])⟩
theorem Hp {C:Checked} {os:Os} {f:FuncId} {fn:Func} {s:ChangeSpec} {sZ:TypeId} {H:Type} {enc:TypeId×Value->H}
  (own:ownKnob C.prog.godebug=none) (started:os.Started) (DV:C.prog.inits.idxOf? f=none) (iD:C.prog.funcs[f]? = some fn)
  (witness:∃ (w:World) (tape:Tape) (i:Input),w.os=os/\(w.forCall tape i).Shaped C.prog/\i.vars=[]/\Input.okWide C.prog (w.forCall tape i) .any w.heap.size f i /\
   s.pre6 enc C.prog fn [] false (w.forCall tape i).memory i.args/\({}:Assume).holds C.prog (lone (Frame.enter C.prog f i.args .normal) [] (w.forCall tape i)))
  (aq:laidOutB C.prog=true) (uG:s.vars=[]) (DW:∀ ds:List (DataW H),ds.length=fn.params.size->s.fn H ds={ results:=[.lit (.bool true)],args:=ds })
  (Av:fn.resultTypes = #[sZ]) (hb:C.prog.underlying sZ=some .bool) (DX:(fn.params.toList.all fun t=>C.prog.readableRec t && decide (t<C.prog.types.size))=true)
  (walk:∀ (W:World) (args:Array Value),oL C.prog W fn.params.toList args.toList->Calls C.prog f args W fun e nU=>e = .returned (.bool true)/\Below W.heap.size W nU) :
  ReturnsInHanded {} C os f .any (s.pre6 enc C.prog fn [] false) (s.post enc C.prog fn false true false false):=by
 refine returnsInHanded_of_change_sized own started DV iD witness ?_
 have DY:∀ t ∈ fn.params.toList,C.prog.readableRec t=true/\t<C.prog.types.size:=fun t ht=>by
  have:=List.all_eq_true.1 DX t ht
  simpa using this
 intro W base args ds gs before DZ mi _ dZ _
 have D0:=mi
 obtain ⟨p,q,b1,k1,rfl,QZ,wL⟩:=mi
 rw[uG] at k1
 obtain ⟨rfl,rfl⟩:=trodVars_none k1
 have hlen:ds.length=fn.params.size:=by
  have:∀ (ts:List TypeId) (vs:List Value) (ds:List (DataW H)) (bK:List MemPlace),DataW.TrodAll enc C.prog W 0 (fun _=>true) true ts vs ds bK->ds.length=ts.length:=by
   intro ts
   induction ts with
   | nil=>intro vs ds bK h;cases vs <;> cases ds <;> simp_all [DataW.TrodAll]
   | cons t ts cf=>
    intro vs ds bK h
    obtain ⟨v,cc,d,Au,p,q,rfl,rfl,rfl,I,J⟩:=trodAll_cons h
    simp[cf _ _ _ J]
  simpa using this _ _ _ _ b1
 have Q0:∀ n ∈ DataW.weightsEach C.prog fn.params.toList ds,n<=reachBytes:=by
  have hv:s.plain.varTypes C.prog=[]:=by simp[ChangeSpec.plain,DataSpec.varTypes,uG]
  rw[hv] at dZ
  simpa using dZ
 have mj:oL C.prog W fn.params.toList args.toList:=wK (fun j t v I J=>⟨base,DZ j t v (by simpa using I) (by simpa using J)⟩) Q0 b1
 refine (walk W args mj).mono fun e nU ⟨he,wM⟩=>?_
 subst he
 have kB:=DW (ds++[]) (by simpa using hlen)
 refine ⟨_,rfl,ds,[],_,[],p,[],D0,?_,?_,?_,wM.frame _,fun h=>by cases h⟩
 ·rw[kB,Av]
  exact trodAll_mk1 (shut_bool hb _)
 ·rw[kB]
  simp only[List.append_nil]
  exact DU aq wM DY b1
 ·rw[uG,kB]
  rfl
theorem db {x:Int} (h:(Lit.int .i64 x).wf=true):aF x:=bounds_i64 h
theorem D1 {x:Int} (h:(Lit.int .u64 x).wf=true):kg x:=by
 have:=bounds_u64 h
 unfold kg;omega
def eQ (S:Nat->Prop) (w:World) (cs:List V) (es:List Value):Prop:=es.length=cs.length /\ ∀ j,j<cs.length->fP S w (bx cs j) (es.getD j undef)
theorem gZ {S:Nat->Prop} {w:World}:eQ S w [] []:=⟨rfl,fun j ah=>by simp at ah⟩
theorem aP {S:Nat->Prop} {w:World} {c:V} {u:Value} {cs:List V} {es:List Value} (h:fP S w c u) (k:eQ S w cs es):eQ S w (c :: cs) (u :: es):=by
 refine ⟨by simp[k.1],fun j ah=>?_⟩
 cases j with
 | zero=>simpa[bx] using h
 | succ j=>have:=k.2 j jD;simpa[bx] using this
theorem qo {P:Program} {W:World} {t:TypeId} {S:Nat->Prop} (hu:P.underlying t=some (.int .u8)) (es:List Value) (h:Cells P W t es):∃ x,eQ S W (aC x) es/\True:=by
 obtain ⟨n,rfl,hw⟩:=h.cP hu
 have:=bounds_u8 hw
 refine ⟨UInt8.ofNat n.toNat,aP ?_ gZ,trivial⟩
 have e:((UInt8.ofNat n.toNat).toNat:Int)=n:=by
  rw[UInt8.toNat_ofNat'];omega
 rw[e];exact .lit _ rfl
theorem D2 {P:Program} {W:World} {t:TypeId} {S:Nat->Prop} (hu:P.underlying t=some (.int .i64)) (es:List Value) (h:Cells P W t es):∃ x,eQ S W (encI x) es/\aF x:=by
 obtain ⟨n,rfl,hw⟩:=h.cP hu
 exact⟨n,aP (.lit _ rfl) gZ,db hw⟩
theorem hp {α:Type} {P:Program} {W:World} {t e:TypeId} {v:Value} {enc:α->List V} {wf:α->Prop} {size bytes:Nat}
  (hu:P.underlying t=some (.slice e)) (ap:P.cellsOf e=size) (hb:P.bytesOf e=bytes) (s0:0<size)
  (bn:∀ es,Cells P W e es -> ∃ x,eQ (fun b=>b<W.heap.size) W (enc x) es/\wf x) (h:Cells P W t [v]) :
  ∃ l:List α,fP (fun b=>b<W.heap.size) W (.ro (l.map enc)) v/\l.length * bytes<=140737488351232 /\ ∀ y,y ∈ l->wf y:=by
 rcases h.wH hu with af | ⟨a,len,cap,hv,aq,wN,hc,he⟩
 ·injection af with af _
  subst af
  exact⟨[],.ro [] none 0 1 0 0 (fun _ _=>undef) (Nat.le_refl _) pf (by omega) (fun h=>by simp at h) (fun i hi=>by simp at hi) (fun i j hi=>by simp at hi) (fun i j hi=>by simp at hi),by simp,fun y ai=>by simp at ai⟩
 ·injection hv with hv _
  subst hv
  rw[ap] at he
  rw[hb] at hc
  have U:∀ i,i<len -> ∃ x es,es.length=size/\(∀ j,j<size->W.cell? ((a.add (i * size)).add j)=es[j]?)/\eQ (fun b=>b<W.heap.size) W (enc x) es/\wf x:=fun i hi=>by
   obtain ⟨es,I,J,av⟩:=he i (by omega)
   obtain ⟨x,U,hw⟩:=bn es av
   exact⟨x,es,I,J,U,hw⟩
  have sY:∃ l:List α,l.length=len/\(∀ i (h:i<l.length),∃ es,es.length=size/\(∀ j,j<size->W.cell? ((a.add (i * size)).add j)=es[j]?)/\eQ (fun b=>b<W.heap.size) W (enc l[i]) es) /\ ∀ y,y ∈ l->wf y:=by
   clear aq hc he h
   induction len with
   | zero=>exact⟨[],rfl,fun i hi=>by simp at hi,fun y ai=>by simp at ai⟩
   | succ n cf=>
    obtain ⟨l,aq,kh,l8⟩:=cf (fun i hi=>U i (by omega))
    obtain ⟨x,es,I,J,av,bl⟩:=U n (by omega)
    refine ⟨l++[x],by simp[aq],fun i hi=>?_,fun y ai=>?_⟩
    ·simp at hi
     by_cases eT:i<l.length
     ·rw[List.getElem_append_left eT]
      exact kh i eT
     ·have:i=n:=by omega
      subst this
      refine ⟨es,I,J,?_⟩
      rw[List.getElem_append_right (by omega)]
      simpa[aq] using av
    ·simp at ai
     rcases ai with ai|rfl
     ·exact l8 y ai
     ·exact bl
  obtain ⟨l,fW,kh,l8⟩:=sY
  subst fW
  have Aw:l.length * bytes<=reachBytes:=Nat.le_trans (Nat.mul_le_mul_right _ aq) hc
  refine ⟨l,?_,by unfold reachBytes at Aw;omega,l8⟩
  by_cases af:0<l.length
  ·obtain ⟨Q1,g1,g2,_⟩:=kh 0 af
   have kB:a.spot=none:=by
    have g:=g2 0 s0
    rw[List.getElem?_eq_getElem (by omega)] at g
    have:=World.cell?_spot g
    simpa[Addr.add] using this
   obtain ⟨b,off,spot⟩:=a
   simp only at kB
   subst kB
   simp only[qp] at kh g2
   have cj:b<W.heap.size:=by
    have g:=g2 0 s0
    rw[List.getElem?_eq_getElem (by omega)] at g
    exact pq g
   have dZ:∀ i (h:i<l.length),(enc l[i]).length=size:=fun i hi=>by
    obtain ⟨es,aT,a1,bz⟩:=kh i hi
    rw[<- bz.1,aT]
   have wO:∀ i (h:i<l.length),bH (l.map enc) i=enc l[i]:=fun i hi=>by
    unfold bH
    rw[List.getD_eq_getElem?_getD,List.getElem?_map,List.getElem?_eq_getElem hi];rfl
   have:fP (fun b=>b<W.heap.size) W (.ro (l.map enc)) (.slice (some ⟨b,off,none⟩) (l.map enc).length cap):=by
    refine .ro _ _ cap size b off (fun i j=>(W.cell? ⟨b,off+i * size+j,none⟩).getD undef) (by simpa using aq) wN s0 (fun _=>⟨rfl,cj⟩) (fun i hi=>?_) (fun i j hi ah=>?_) (fun i j hi ah=>?_)
    ·rw[List.length_map] at hi;rw[wO i hi];exact dZ i hi
    ·rw[List.length_map] at hi
     obtain ⟨es,aT,a1,bz⟩:=kh i hi
     rw[a1 j ah,List.getElem?_eq_getElem (by omega)];rfl
    ·rw[List.length_map] at hi
     obtain ⟨es,aT,a1,bz⟩:=kh i hi
     rw[wO i hi,a1 j ah]
     have:=bz.2 j (by rw[dZ i hi];exact ah)
     rwa [List.getD_eq_getElem?_getD] at this
   rwa [List.length_map] at this
  ·have hn:l=[]:=List.eq_nil_of_length_eq_zero (by omega)
   subst hn
   exact .ro [] (some a) cap 1 0 0 (fun _ _=>undef) (by simp) wN (by omega) (fun h=>by simp at h) (fun i hi=>by simp at hi) (fun i j hi=>by simp at hi) (fun i j hi=>by simp at hi)
def Ax (W:World) (v:Value) (x:V):Prop:=cC (fun _=>none) (fun b=>b<W.heap.size) W x v
theorem Ol {W:World} {u:Value} (h:u.oneCell' = true):Ax W u (.lit u):=.pure (.lit _ h)
theorem Oj {W:World} {cs:List V} {es:List Value} (h:eQ (fun b=>b<W.heap.size) W cs es):Ax W (.agg es.toArray) (.agg cs):=
 .agg (by simp[h.1]) (fun j ah=>by
  have:=h.2 j ah
  have e:es.toArray.getD j undef=es.getD j undef:=by rw[Array.getD_eq_getD_getElem?,List.getD_eq_getElem?_getD];simp
  rw[e];exact .pure this)
inductive uH (W:World):List V->List Value->Prop
 | nil:uH W [] []
 | cons {x:V} {v:Value} {xs:List V} {vs:List Value} (h:Ax W v x) (ap:uH W xs vs):uH W (x :: xs) (v :: vs)
theorem uH.spec {W:World} {xs:List V} {vs:List Value} (h:uH W xs vs):vs.length=xs.length /\ ∀ j,j<xs.length->Ax W (vs.getD j undef) (bx xs j):=by
 induction h with
 | nil=>exact⟨rfl,fun j ah=>by simp at ah⟩
 | cons h ap cf=>
  refine ⟨by simp[cf.1],fun j ah=>?_⟩
  cases j with
  | zero=>simpa[bx] using h
  | succ j=>have:=cf.2 j jD;simpa[bx] using this
theorem Oi {P:Program} {f:FuncId} {xs:List V} {vs:List Value} {W:World} (hf:Fn P f xs (.lit (.bool true))) (bj:uH W xs vs):Calls P f vs.toArray W fun e nU=>e = .returned (.bool true)/\Below W.heap.size W nU:=by
 obtain ⟨I,J⟩:=bj.spec
 refine (hf.2 W (fun _=>True) vs.toArray (by simpa using I) (fun _ _=>trivial) (fun j ah=>?_)).mono ?_
 ·have e:vs.toArray.getD j undef=vs.getD j undef:=by rw[Array.getD_eq_getD_getElem?,List.getD_eq_getElem?_getD];simp
  rw[e]
  exact(J j ah).mono (dX.refl _ _) (fun _ _ _=>trivial) (fun _ _ h=>h)
 ·rintro e aE ⟨v,rfl,hb,hv⟩
  rw[ff hv]
  exact⟨rfl,hb⟩
end
end Go.Proofs.YtendheafcbickaaGreat
