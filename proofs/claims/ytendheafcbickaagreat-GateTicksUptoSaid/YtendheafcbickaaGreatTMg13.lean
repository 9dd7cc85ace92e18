/-
  SEVERAL TEXTS IN ONE: each with its own comment.
-/
import Derived.Test.YtendheafcbickaaGreatTZip
import Derived.Test.YtendheafcbickaaGreatTGo
import Derived.Test.YtendheafcbickaaGreatTMg10
import Derived.Test.YtendheafcbickaaGreatTMg11
import Derived.Test.YtendheafcbickaaGreatTMg12
import Derived.Test.YtendheafcbickaaGreatTMg03
import Derived.Laws.Pointers
set_option linter.unusedVariables false
set_option linter.unusedSimpArgs false
set_option maxHeartbeats 16000000
namespace Go.Proofs.YtendheafcbickaaGreat
section
set_option maxRecDepth 100000
attribute [local irreducible] cq a8 bw GStep Fn cu bk cU
theorem sS {α:Type} [Inhabited α] {l:List α} {Q:α->Prop}:cV (fun i=>Q (l.getD i default)) l.length ↔ ∀ x ∈ l,Q x:=by
 constructor
 ·intro h x U
  obtain ⟨i,hi,rfl⟩:=List.getElem_of_mem U
  have:=h i hi
  dsimp only at this
  rwa [List.getD_eq_getElem?_getD,List.getElem?_eq_getElem hi] at this
 ·intro h i hi
  exact h _ (cY hi)
def jM (l:List eN):List bc:=(l.map (·.Frames)).flatten
theorem V7 {l:List eN} {k:Nat} (h:k<l.length):jM (l.take (k+1))=jM (l.take k)++(l.getD k default).Frames:=by
 unfold jM
 rw[List.take_add_one,List.getElem?_eq_getElem h,List.getD_eq_getElem?_getD,List.getElem?_eq_getElem h]
 simp only[List.map_append,List.flatten_append,Option.toList,List.map_cons,List.map_nil,List.flatten_cons,List.flatten_nil,List.append_nil,Option.getD]
theorem Gu {l:List eN} {f:bc}:f ∈ jM l ↔ ∃ p ∈ l,f ∈ p.Frames:=by
 unfold jM
 simp only[List.mem_flatten,List.mem_map]
 constructor
 ·rintro ⟨_,⟨p,aw,rfl⟩,hf⟩;exact⟨p,aw,hf⟩
 ·rintro ⟨p,aw,hf⟩;exact⟨_,⟨p,aw,rfl⟩,hf⟩
theorem V8 (c:a6):pQ c ↔ ((lA c/\iR c)/\cV (lB c) c.aO.length)/\cV (fun i=>eu ((c.Queue++jM c.bf.az).getD i default)=0) (c.Queue++jM c.bf.az).length:=by
 have aH:=sS (l:=c.Queue++jM c.bf.az) (Q:=fun x=>eu x=0)
 have aN:=sS (l:=c.Queue) (Q:=fun x=>eu x=0)
 have bS:=sS (l:=c.bf.az) (Q:=fun p=>nQ p.Frames p.Frames.length)
 have eK:=fun l:List bc=>sS (l:=l) (Q:=fun x=>eu x=0)
 unfold pQ
 constructor
 ·rintro ⟨⟨I,J⟩,av⟩
  refine ⟨I,aH.2 fun x U=>?_⟩
  rcases List.mem_append.1 U with U|U
  ·exact aN.1 J x U
  ·obtain ⟨p,aw,hf⟩:=Gu.1 U
   exact(eK _).1 (bS.1 av p aw) x hf
 ·rintro ⟨I,J⟩
  have J:=aH.1 J
  exact⟨⟨I,aN.2 fun x U=>J x (List.mem_append.2 (.inl U))⟩,bS.2 fun p aw=>(eK _).2 fun x U=>J x (List.mem_append.2 (.inr (Gu.2 ⟨p,aw,U⟩)))⟩
theorem DF (c:a6) (hu:W.ej c):Fn Tryz.prog 66 [.agg (e2 c)] (.lit (.int .i64 (l0 c))):=by
 have hw:=W.pT c hu
 obtain ⟨w0,cy,cR,w3,ef,dU,eS,fV,h0,ju,jf,jv,jw,k9⟩:=hw
 have iw:c.bf.az.length<=1048576:=by have:=hu.1.2.1;omega
 have lC:∀ y,y ∈ c.bf.az->bR.jg y:=hu.1.2.2.1
 have iX:∀ y,y ∈ c.bf.az->jg y:=w0.2.2.1
 have nE:∀ y,y ∈ c.aO->W.gM y:=hu.2.2.2.2.2.2.2.2.1
 have sj:c.Queue.length<=1048576:=by have:=hu.2.2.2.2.2.2.2.2.2.1;omega
 have I:=zi c.bf w0
 have J:=Jo c.e8 cy
 have av:=Jn c.fL
 have bl:=Jn c.fQ
 clear w0 cy cR w3 hu
 unfold aF at ef dU eS jv jw k9
 have p2:=V8 c
 refine aU ae Tryz.func66 rfl ae ?_
 refine iv ?_
 refine lb ?_
 (repeat' first|(refine ni ?_;((repeat' first|exact True.intro|refine R.mk ?_ ?_);all_goals intros))|fail "")
 refine lc ?_
 refine fG (fun ok:Bool=>⟨[(1,.ptr 0 0 0 0),(2,.lit (.int .i64 0)),(3,.lit (.bool ok))],[(0,some (.box 51 (e2 c)))],1,Tryz.f66.ntmps⟩) (fun ok=>ok=true ↔ lA c/\iR c) ?_ ?_
 ·unfold lA iR
  (repeat' first|(refine ar (I) (h:=?_))|(refine au (I) (h:=?_))|(refine ar (J) (h:=?_))|(refine au (J) (h:=?_))|(refine ar (av) (h:=?_))|(refine au (av) (h:=?_))|(refine ar (bl) (h:=?_))|(refine au (bl) (h:=?_))|(refine dM (cB _ _) (ht:=?_) (hff:=?_) <;> intro _ <;> try (exfalso;omega))|(refine dN (cB _ _) (ht:=?_) (hff:=?_) <;> intro _ <;> try (exfalso;omega))|(refine ab ?_;((repeat' first|exact True.intro|refine R.mk ?_ ?_);all_goals intros))|fail "")
  all_goals first
   | (refine ⟨true,?_,?_⟩;rotate_left 1;(exact ax);(exact vC))
   | (refine ⟨false,?_,?_⟩;rotate_left 1;(exact ax);(exact vD))
   | skip
 rintro ok bu
 clear I J av bl ef dU jv jw k9
 have fW:c.aO.length<=1000000000000000:=by omega
 clear fV ju
 (repeat' first|(refine ab ?_;((repeat' first|exact True.intro|refine R.mk ?_ ?_);all_goals intros))|fail "")
 refine b2 (fun x:Nat×Bool=>⟨[(1,.ptr 0 0 0 0),(2,.lit (.int .i64 0)),(3,.lit (.bool x.2)),(76,.ro (c.aO.map cv)),(77,.lit (.int .i64 c.aO.length)),(78,.lit (.int .i64 x.1))],[(0,some (.box 51 (e2 c)))],1,Tryz.f66.ntmps⟩)
  (fun x=>x.1<=c.aO.length/\(x.2=true ↔ (lA c/\iR c)/\cV (lB c) x.1)) (fun x=>c.aO.length - x.1) (0,ok) ⟨Nat.zero_le _,by rw[bu];exact⟨fun h=>⟨h,jx⟩,fun h=>h.1⟩⟩ q0 ?_
 clear ok bu
 rintro ⟨k,ok⟩ ⟨ag,hi⟩
 dsimp only at ag hi ⊢
 by_cases aJ:k<c.aO.length
 ·have ap:=gn (Q:=lB c) (k:=k)
  have l1:=h0 _ (cY aJ)
  have iV:=nE _ (cY aJ)
  have I:=VT _ l1.2.1
  have J:=CR _ iV.2.2.2
  have NT:=l1.2.2.1
  have MR:=l1.1
  clear iw lC iX nE p2 sj h0 jf
  cases ok
  ·have hi:¬ ((lA c/\iR c)/\cV (lB c) k):=fun h=>by have:=hi.2 h;cases this
   (repeat' first|(refine ab ?_;((repeat' first|exact True.intro|refine R.mk ?_ ?_);all_goals intros))|fail "")
   all_goals first
    | (refine ⟨(k+1,false),?_,?_,?_⟩;rotate_left 2;(exact ax);(exact bV);(exact sk))
    | skip
  ·obtain ⟨hh,bj⟩:=hi.1 rfl
   have fZ:0<=c.gJ:=hh.2.2.2.2.2.1
   have Vi:IntKind.i64.wrap (c.gJ - 1)=c.gJ - 1:=by rw[IntKind.wrap_i64];omega
   rcases Nat.eq_zero_or_pos k with af|af
   ·subst af
    unfold lB at ap
    rw[yY] at ap
    (repeat' first|(refine ar (I) (h:=?_))|(refine au (I) (h:=?_))|(refine ar (J) (h:=?_))|(refine au (J) (h:=?_))|(refine dM (cB _ _) (ht:=?_) (hff:=?_) <;> intro _ <;> try (exfalso;omega))|(refine dN (cB _ _) (ht:=?_) (hff:=?_) <;> intro _ <;> try (exfalso;omega))|(refine ab ?_;((repeat' first|exact True.intro|refine R.mk ?_ ?_);all_goals intros))|fail "")
    all_goals first
     | (refine ⟨(0+1,true),?_,?_,?_⟩;rotate_left 2;(exact ax);(exact bV);(exact Cp))
     | (refine ⟨(0+1,false),?_,?_,?_⟩;rotate_left 2;(exact ax);(exact bV);(exact pR))
     | skip
   ·obtain ⟨j,rfl⟩:∃ j,k=j+1:=⟨k - 1,by omega⟩
    have V9:=bj j (by omega)
    have p4:0<=(c.aO.getD j default).Id:=by
     clear ap hi
     have:∀ i,i<=j->0<=(c.aO.getD i default).Id:=by
      intro i
      induction i with
      | zero=>intro _;have:=(bj 0 (by omega)).1;rw[yY] at this;omega
      | succ i cf=>intro hi;have:=(bj (i+1) (by omega)).1;rw[yZ] at this;have:=cf (by omega);omega
     exact this j (Nat.le_refl _)
    clear V9
    unfold lB at ap
    rw[yZ] at ap
    have BO:((j+1:Nat):Int) - 1=(j:Int):=by omega
    (repeat' first|(refine ar (I) (h:=?_))|(refine au (I) (h:=?_))|(refine ar (J) (h:=?_))|(refine au (J) (h:=?_))|(refine dM (cB _ _) (ht:=?_) (hff:=?_) <;> intro _ <;> try (exfalso;omega))|(refine dN (cB _ _) (ht:=?_) (hff:=?_) <;> intro _ <;> try (exfalso;omega))|(refine ab ?_;((repeat' first|exact True.intro|refine R.mk ?_ ?_);all_goals intros))|fail "")
    all_goals (try simp only[Nat.add_sub_cancel] at *)
    all_goals first
     | (refine ⟨(j+1+1,true),?_,?_,?_⟩;rotate_left 2;(exact ax);(exact bV);(exact Cp))
     | (refine ⟨(j+1+1,false),?_,?_,?_⟩;rotate_left 2;(exact ax);(exact bV);(exact pR))
     | skip
 have ct:k=c.aO.length:=by omega
 subst ct
 clear h0 nE aJ ag
 generalize ((lA c/\iR c)/\cV (lB c) c.aO.length)=B at *
 (repeat' first|(refine cx (r:=c.Queue.map aW) ?_ ?_ ?_ ?_ (h:=?_);(exact aM);(exact al);(exact an);(exact ao))|(refine cD (r:=c.Queue.map aW) ?_ ?_ ?_ ?_ (h:=?_);(exact aM);(exact al);(exact an);(exact ao))|(refine cE (r:=c.Queue.map aW) ?_ ?_ ?_ ?_ (h:=?_);(exact aM);(exact al);(exact an);(exact ao))|(refine cF (r:=c.Queue.map aW) ?_ ?_ ?_ ?_ (h:=?_);(exact aM);(exact al);(exact an);(exact ao))|(refine ab ?_;((repeat' first|exact True.intro|refine R.mk ?_ ?_);all_goals intros))|fail "")
 refine b2 (fun k:Nat=>⟨[(2,.lit (.int .i64 0)),(3,.lit (.bool ok)),(6,.own 0),(133,.ro (c.bf.az.map bY)),(134,.lit (.int .i64 c.bf.az.length)),(135,.lit (.int .i64 k))],[(0,some (.row 111 7 ((c.Queue++jM (c.bf.az.take k)).map aW)))],1,Tryz.f66.ntmps⟩)
  (fun k=>k<=c.bf.az.length/\(jM (c.bf.az.take k)).length<=k * 1048576) (fun k=>c.bf.az.length - k) 0 ⟨Nat.zero_le _,Nat.zero_le _⟩ (by(try dsimp only);rw[show c.Queue++jM (c.bf.az.take 0)=c.Queue from List.append_nil _];(exact ax)) ?_
 rintro k ⟨ag,ct⟩
 by_cases aJ:k<c.bf.az.length
 ·have qM:=(lC _ (cY aJ)).2.2.2.1
  have Ix:=V7 aJ
  have hle:k * 1048576<=1048576 * 1048576:=Nat.mul_le_mul_right _ (by omega)
  have X5:(c.Queue++jM (c.bf.az.take k)).length=c.Queue.length+(jM (c.bf.az.take k)).length:=List.length_append
  have Aw:(jM (c.bf.az.take (k+1))).length=(jM (c.bf.az.take k)).length+(c.bf.az.getD k default).Frames.length:=by rw[Ix,List.length_append]
  (repeat' first|(refine cx (r:=(c.Queue++jM (c.bf.az.take (k+1))).map aW) ?_ ?_ ?_ ?_ (h:=?_);(exact z8);(exact al);(exact an);(exact ao))|(refine cD (r:=(c.Queue++jM (c.bf.az.take (k+1))).map aW) ?_ ?_ ?_ ?_ (h:=?_);(exact z8);(exact al);(exact an);(exact ao))|(refine cE (r:=(c.Queue++jM (c.bf.az.take (k+1))).map aW) ?_ ?_ ?_ ?_ (h:=?_);(exact z8);(exact al);(exact an);(exact ao))|(refine cF (r:=(c.Queue++jM (c.bf.az.take (k+1))).map aW) ?_ ?_ ?_ ?_ (h:=?_);(exact z8);(exact al);(exact an);(exact ao))|(refine ab ?_;((repeat' first|exact True.intro|refine R.mk ?_ ?_);all_goals intros))|fail "")
  all_goals first
   | (refine ⟨k+1,?_,?_,?_⟩;rotate_left 2;(exact ax);(exact bN);(focus (exact⟨aJ,by omega⟩)))
   | skip
 have vW:k=c.bf.az.length:=by omega
 subst vW
 rw[List.take_length] at *
 have hle:c.bf.az.length * 1048576<=1048576 * 1048576:=Nat.mul_le_mul_right _ (by omega)
 have X6:(c.Queue++jM c.bf.az).length<=1000000000000000:=by rw[List.length_append];omega
 have zk:∀ f ∈ c.Queue++jM c.bf.az,dC f:=fun f hf=>by
  rcases List.mem_append.1 hf with hf|hf
  ·exact jf f hf
  ·obtain ⟨p,aw,hf⟩:=Gu.1 hf
   exact(iX p aw).2.2.2.2 f hf
 clear hle ct ag aJ lC iX jf sj iw
 generalize c.Queue++jM c.bf.az=L at *
 (repeat' first|(refine ab ?_;((repeat' first|exact True.intro|refine R.mk ?_ ?_);all_goals intros))|fail "")
 refine b2 (fun x:Nat×Bool=>⟨[(2,.lit (.int .i64 0)),(3,.lit (.bool x.2)),(144,.ro (L.map aW)),(145,.lit (.int .i64 L.length)),(146,.lit (.int .i64 x.1))],[],0,Tryz.f66.ntmps⟩)
  (fun x=>x.1<=L.length/\(x.2=true ↔ B/\cV (fun i=>eu (L.getD i default)=0) x.1)) (fun x=>L.length - x.1) (0,ok) ⟨Nat.zero_le _,by rw[hi];exact⟨fun h=>⟨h,jx⟩,fun h=>h.1⟩⟩ q0 ?_
 clear ok hi
 rintro ⟨k,ok⟩ ⟨ag,hi⟩
 dsimp only at ag hi ⊢
 by_cases aJ:k<L.length
 ·have ap:=gn (Q:=fun i=>eu (L.getD i default)=0) (k:=k)
  have I:=Hv _ (zk _ (cY aJ))
  cases ok
  ·have hi:¬ (B/\cV (fun i=>eu (L.getD i default)=0) k):=fun h=>by have:=hi.2 h;cases this
   (repeat' first|(refine ab ?_;((repeat' first|exact True.intro|refine R.mk ?_ ?_);all_goals intros))|fail "")
   all_goals first
    | (refine ⟨(k+1,false),?_,?_,?_⟩;rotate_left 2;(exact ax);(exact bV);(exact sk))
    | skip
  ·obtain ⟨hh,bj⟩:=hi.1 rfl
   (repeat' first|(refine ar (I) (h:=?_))|(refine au (I) (h:=?_))|(refine ab ?_;((repeat' first|exact True.intro|refine R.mk ?_ ?_);all_goals intros))|fail "")
   all_goals first
    | (refine ⟨(k+1,true),?_,?_,?_⟩;rotate_left 2;(exact ax);(exact bV);(exact Cq))
    | (refine ⟨(k+1,false),?_,?_,?_⟩;rotate_left 2;(exact ax);(exact bV);(exact pR))
    | skip
 have ct:k=L.length:=by omega
 subst ct
 cases ok
 ·rw[Cj (fun h=>by have:=hi.2 (p2.1 h);cases this)]
  (repeat' first|(refine ab ?_;((repeat' first|exact True.intro|refine R.mk ?_ ?_);all_goals intros))|fail "")
  all_goals exact bt (hr:=rfl)
 ·rw[Ci (p2.2 (hi.1 rfl))]
  (repeat' first|(refine ab ?_;((repeat' first|exact True.intro|refine R.mk ?_ ?_);all_goals intros))|fail "")
  all_goals exact bt (hr:=rfl)
end
section
open Go.RowKit Go.ChangeMaps
section
variable {P:Program} {o:Oper} {n0:Nat} {st:ba} {G:List Nat}
theorem Wa {k:Nat} {f:FuncId} {xs:Array Operand} {ts:Array TypeId} {vs cc:List V} {e s d:Nat} {l:List (List V)} (aa:o.op = .call { callee:=.value (.func f),args:=xs,argTypes:=ts }) (hd:o.dst=some d) (aL:Nat.blt d st.ad=true)
    (U:gw st.env xs.toList=some vs) (ap:gE.mz st.heap vs=some cc) (hf:cU P f cc [] 0 (.own 0) [(0,some (.row e s l))] 1) (Wb:∀ i j,i<l.length->j<s -> ∃ u,bx (bH l i) j = .lit u) :
    ko P k o st (st.newAt k d (.own k) (.row e s l)):=fun F base w0 ρ a w ak ay eH ag=>by
  obtain ⟨aH,aN⟩:=uU ay U
  obtain ⟨g1,g2⟩:=xl ap
  unfold Oper.wp
  rw[AV aa hf.1 a w,Oper.upon_enter]
  have aV:∀ b,bC (fun _=>True) (fun _=>none) [] b:=fun b=>⟨trivial,fun id B u aB=>by simp[bd] at aB⟩
  have Wc:en (fun _=>True) (fun b=>w.heap.size<=b) (fun _=>none) [] 0 w w:=
    { below := mw.refl _ _
      fC:=fun b hb=>hb
      ch:=fun b _=>trivial
      sup:=fun id u h=>by cases h
      inj:=fun id dQ B bT u ev b h=>by cases h
      dB:=fun id B h=>by cases h }
  have dZ:(xs.map a.eval).size=cc.length:=by rw[g1,aH];simp
  refine (hf.2.2 (fun _=>True) _ w _ w (xs.map a.eval) dZ Wc (fun j ah=>?_)).mono ?_
  · rw[g1] at ah
    have h:=aN j ah
    have bS:(xs.toList.map a.eval).getD j undef=(xs.map a.eval).getD j undef:=by
      rw[List.getD_eq_getElem?_getD,Array.getD_eq_getD_getElem?,<- Array.toList_map]
      simp
    rw[bS] at h
    exact E8 ak (fun b _ _=>aV b) (fun b _ _=>aV b) h (g2 j ah)
  · rintro lo aE ⟨v,bm,rfl,aT,a1,_⟩
    have af:=mR a1
    have iP:=aT.below.AD
    obtain ⟨pr,cX,k5,dD,⟨c7,Na⟩,fb,iS⟩:=aT.dB 0 (.row e s l) (by simp[bd])
    rw[af] at dD;injection dD with dD;subst dD
    have I:=(aT.sup 0 _ af).2
    rw[hd]
    refine rJ ak ay eH ag iP (fun _ b hb=>Na b hb) (Nat.le_of_ble_eq_true aL) I (fun S hS _ eV=>?_) (fun S=>.own (hx _ _ _))
    refine ⟨pr,v,k5,hx _ _ _,⟨c7,fun b hb=>ak.fC b (Na b hb)⟩,fb,fun i j hi ah=>?_⟩
    obtain ⟨u,hu,aw,eJ⟩:=iS i j hi ah
    obtain ⟨x,U⟩:=Wb i j hi ah
    rw[U] at aw ⊢
    cases aw with
    | lit=>exact⟨_,hu,.lit _ ca,eJ⟩
theorem Wd (l:List UInt8):∀ i j,i<(l.map aC).length->j<1 -> ∃ u,bx (bH (l.map aC) i) j = .lit u:=fun i j hi ah=>by
 rw[List.length_map] at hi
 obtain rfl:j=0:=by omega
 have:bH (l.map aC) i=aC l[i]:=by
  unfold bH
  rw[List.getD_eq_getElem?_getD,List.getElem?_map,List.getElem?_eq_getElem hi];rfl
 rw[this]
 exact⟨_,rfl⟩
section
variable {ops:List Oper} {rest:List Oper} {env:List (Nat×V)} {heap:List (Nat×Option aY)} {next ad:Nat} {Q:ba->Prop}
theorem HN {f:FuncId} {xs:Array Operand} {ts:Array TypeId} {vs cc:List V} {e d:Nat} {l:List UInt8} (hf:cU P f cc [] 0 (.own 0) [(0,some (.row e 1 (l.map aC)))] 1) (aa:o.op = .call { callee:=.value (.func f),args:=xs,argTypes:=ts }:=by rfl) (aj:bW env ops o.guard=some true:=by rfl) (hd:o.dst=some d:=by rfl) (aL:Nat.blt d ad=true:=by rfl) (hn0:Nat.ble n0 next=true:=by rfl)
  (U:gw env xs.toList=some vs:=by rfl) (ap:gE.mz heap vs=some cc:=by rfl) (h:a8 P n0 ops.toArray rest ⟨(d,.own next) :: env,(next,some (.row e 1 (l.map aC))) :: heap,next+1,ad⟩ Q):a8 P n0 ops.toArray (o :: rest) ⟨env,heap,next,ad⟩ Q:=
 jI aj (n5 (Nat.le_of_ble_eq_true hn0) (Wa (st:={ env:=env,heap:=heap,next:=next+1,ad:=ad }) aa hd aL U ap hf (Wd l))) h
end
end
end
section
open Go.RowKit
section
variable {P:Program} {G:List Nat} {o:Oper} {st:ba}
theorem y2 {T cA:TypeId} {x y:Operand} {id i s j:Nat} (aa:o.op = .binOp .eql T x y cA) (U:aI st.env x=some (.ptr id i s j)) (ai:aI st.env y=some (.lit (.pointer none))) (aV:P.underlying T=some (.pointer (P.pointee T))) :
  bw P G o st (.lit (.bool false)):=
 hs fun F base w0 ρ a w ak ay=>by
  obtain ⟨r,b,I,J,av⟩:=pv (c0 ay U)
  have bl:=ff (c0 ay ai)
  refine ⟨_,.pure (.lit _ rfl),fun aE=>?_⟩
  unfold execOp;rw[aa];simp only[];rw[av,bl]
  simp[eqGuard,binOp,Sem.run_bind,Sem.run_pure,run_equal_pointer_nil aE T _ aV]
theorem MF {T cA:TypeId} {x y:Operand} {id i s j:Nat} (aa:o.op = .binOp .neq T x y cA) (U:aI st.env x=some (.ptr id i s j)) (ai:aI st.env y=some (.lit (.pointer none))) (aV:P.underlying T=some (.pointer (P.pointee T))) :
  bw P G o st (.lit (.bool true)):=
 hs fun F base w0 ρ a w ak ay=>by
  obtain ⟨r,b,I,J,av⟩:=pv (c0 ay U)
  have bl:=ff (c0 ay ai)
  refine ⟨_,.pure (.lit _ rfl),fun aE=>?_⟩
  unfold execOp;rw[aa];simp only[];rw[av,bl]
  simp[eqGuard,binOp,Sem.run_bind,Sem.run_pure,run_equal_pointer_nil aE T _ aV]
theorem UZ {T cA:TypeId} {x y:Operand} (aa:o.op = .binOp .eql T x y cA) (U:aI st.env x=some (.lit (.pointer none))) (ai:aI st.env y=some (.lit (.pointer none))) (aV:P.underlying T=some (.pointer (P.pointee T))) :
  bw P G o st (.lit (.bool true)):=ja aa U ai (fun w=>by
   simp[eqGuard,binOp,Sem.run_bind,Sem.run_pure,run_equal_pointer_nil w T _ aV]) rfl
theorem U1 {T cA:TypeId} {x y:Operand} (aa:o.op = .binOp .neq T x y cA) (U:aI st.env x=some (.lit (.pointer none))) (ai:aI st.env y=some (.lit (.pointer none))) (aV:P.underlying T=some (.pointer (P.pointee T))) :
  bw P G o st (.lit (.bool false)):=ja aa U ai (fun w=>by
   simp[eqGuard,binOp,Sem.run_bind,Sem.run_pure,run_equal_pointer_nil w T _ aV]) rfl
def q3 (v cX:V):Prop:=v=cX \/ (v = .lit (.slice none 0 0)/\cX = .ro [])
theorem q3.rel {S:Nat->Prop} {w:World} {v cX:V} {u:Value} (h:q3 v cX) (hr:fP S w v u):fP S w cX u:=by
 rcases h with rfl | ⟨rfl,rfl⟩
 ·exact hr
 ·cases hr
  exact .ro [] none 0 1 0 0 (fun _ _=>undef) (by simp) pf (by omega) (fun h=>by simp at h) (fun i hi=>by simp at hi) (fun i j hi=>by simp at hi) (fun i j hi=>by simp at hi)
end
section
variable {P:Program} {n0:Nat}
def pJ (a b x:Nat):Nat:=bif Nat.beq x a then b else x
theorem We (a b:Nat):pJ a b a=b:=by unfold pJ;rw[Nat.beq_refl];rfl
theorem Wf {a b x:Nat} (h:x≠a):pJ a b x=x:=by
 unfold pJ
 cases e:Nat.beq x a with
 | true=>exact absurd (Nat.eq_of_beq_eq_true e) h
 | false=>rfl
def BU (m:Nat->Nat) (env:List (Nat×V)):List (Nat×V)->Prop
 | []=>True
 | (t,v) :: r=>(∃ u,cG env t=some u/\dR m u=v)/\BU m env r
theorem Nb {m:Nat->Nat} {env:List (Nat×V)}:∀ {e:List (Nat×V)},BU m env e -> ∀ t v,cG e t=some v -> ∃ u,cG env t=some u/\dR m u=v
 | [],_,t,v,h=>by simp[cG] at h
 | (s,x) :: r,hc,t,v,h=>by
  simp only[cG] at h
  cases hb:Nat.beq s t with
  | true=>rw[hb] at h;simp only[cond_true,Option.some.injEq] at h;rw[<- h,<- Nat.eq_of_beq_eq_true hb];exact hc.1
  | false=>rw[hb] at h;exact Nb hc.2 t v h
def yG (m:Nat->Nat) (heap:List (Nat×Option aY)):List (Nat×Option aY)->Prop
 | []=>True
 | (_,none) :: r=>yG m heap r
 | (id,some bT) :: r=>(∃ i B,m i=id/\bd heap i=some B/\lu m B=bT)/\yG m heap r
theorem Gv {m:Nat->Nat} {heap:List (Nat×Option aY)}:∀ {e:List (Nat×Option aY)},yG m heap e -> ∀ id bT,bd e id=some bT -> ∃ i B,m i=id/\bd heap i=some B/\lu m B=bT
 | [],_,t,v,h=>by simp[bd] at h
 | (s,none) :: r,hc,t,v,h=>by
  rw[ea] at h
  split at h
  ·cases h
  ·exact Gv (e:=r) hc t v h
 | (s,some u) :: r,hc,t,v,h=>by
  rw[ea] at h
  split at h
  ·rename_i e;subst e;injection h with h;subst h;exact hc.1
  ·exact Gv (e:=r) hc.2 t v h
theorem Wg {st bG:ba} (a:Nat) (hn0:Nat.ble n0 st.next=true) (rN:BU (pJ a st.next) st.env bG.env) (rO:yG (pJ a st.next) st.heap bG.heap) (hn:bG.next=st.next+1) (hnt:bG.ad=st.ad):cu P n0 st bG:=fun F base w0 ρ act w ak ay=>by
 have r8:=Nb rN
 have BV:=Gv rO
 clear rN rO
 generalize hb:st.next=b at *
 let bm:Nat->Option Value:=fun id=>if id=b then ρ a else ρ id
 have qM:∀ id u,ρ id=some u->bm (pJ a b id)=some u:=fun id u hu=>by
  by_cases e:id=a
  ·subst e;rw[We];show(if b=b then ρ id else ρ b)=some u;rw[if_pos rfl];exact hu
  ·rw[Wf e]
   show(if id=b then ρ a else ρ id)=some u
   have:=(ak.sup id u hu).1
   rw[if_neg (by omega)];exact hu
 have aL:∀ i B,bd st.heap i=some B->bm (pJ a b i)=ρ i:=fun i B aB=>by
  have hi:∃ u,ρ i=some u:=by
   have:=ak.dB i B aB
   cases B with
   | box t cs=>obtain ⟨_,_,h,_⟩:=this;exact⟨_,h⟩
   | row e s l=>obtain ⟨_,_,_,h,_⟩:=this;exact⟨_,h⟩
   | gb l=>obtain ⟨_,h,_⟩:=this;exact⟨_,h⟩
   | map q es=>obtain ⟨_,_,_,h,_⟩:=this;exact⟨_,h⟩
   | obj o=>obtain ⟨_,h,_⟩:=this;exact⟨_,h⟩
   | mQ be ln=>obtain ⟨_,_,_,_,h,_⟩:=this;exact⟨_,h⟩
   | jG e s l=>obtain ⟨_,_,_,h,_⟩:=this;exact⟨_,h⟩
   | jX q es=>obtain ⟨_,_,_,h,_⟩:=this;exact⟨_,h⟩
   | iter left dp=>obtain ⟨_,_,_,_,_,_,_,h,_⟩:=this;exact⟨_,h⟩
  obtain ⟨u,hu⟩:=hi
  rw[qM i u hu,hu]
 have jq:∀ x,bC F ρ st.heap x->bC F bm bG.heap x:=fun x h=>⟨h.1,fun id bT u aB aa hu=>by
  obtain ⟨i,B,rfl,J,rfl⟩:=BV id bT aB
  rw[aL i B J] at hu
  exact h.2 i B u J (by rw[mZ] at aa;exact aa) hu⟩
 have hS:∀ x,bC F ρ st.heap x->x<w.heap.size->bC F bm bG.heap x:=fun x h _=>jq x h
 refine ⟨bm,⟨⟨ak.below,ak.fC,fun id u hu=>?_,fun id dQ B bT u ev x aB cJ aa eJ hu ec U p6=>?_,fun id bT cJ=>?_⟩,ak.ch⟩,⟨by rw[hnt];exact ay.size,ay.defers,fun t v hv=>?_⟩,fun id hid=>?_⟩
 ·rw[hn]
  have hu:(if id=b then ρ a else ρ id)=some u:=hu
  split at hu
  ·have:=ak.sup a u hu;exact⟨by omega,this.2⟩
  ·have:=ak.sup id u hu;exact⟨by omega,this.2⟩
 ·obtain ⟨i,C,rfl,J,rfl⟩:=BV id B aB
  obtain ⟨j,FO,rfl,gT,rfl⟩:=BV dQ bT cJ
  rw[aL i C J] at hu
  rw[aL j FO gT] at ec
  rw[mZ] at aa eJ
  rw[ak.inj i j C FO u ev x J gT aa eJ hu ec U p6]
 ·obtain ⟨i,B,rfl,J,rfl⟩:=BV id bT cJ
  have fw:=ak.dB i B J
  have e:=aL i B J
  cases B with
  | box t cs=>
   obtain ⟨b,us,aT,a1,bz,cW,gA⟩:=fw
   refine ⟨b,us,by rw[e];exact aT,a1,bz,by rw[jK];exact cW,fun j ah=>?_⟩
   rw[jK] at ah
   rw[mY ah]
   exact⟨vh hS qM (gA j ah).1,(gA j ah).2⟩
  | row ty s l=>
   obtain ⟨oU,v,xs,aT,a1,bz,cW⟩:=fw
   exact⟨oU,v,xs,by rw[e];exact aT,a1,bz,fun i j hi ah=>by
    obtain ⟨u,hu,aw,aa⟩:=cW i j hi ah
    exact⟨u,hu,aw.mono (dX.refl _ _) hS,aa⟩⟩
  | gb l=>
   obtain ⟨v,aT,a1,bz⟩:=fw
   exact⟨v,by rw[e];exact aT,a1.mono (dX.refl _ _) hS,bz⟩
  | map q es=>
   obtain ⟨b,cn,clock,aT,a1⟩:=fw
   exact⟨b,cn,clock,by rw[e];exact aT,a1⟩
  | obj o=>
   obtain ⟨b,aT,a1⟩:=fw
   exact⟨b,by rw[e];exact aT,a1⟩
  | mQ be ln=>
   obtain ⟨b,cap,dp,iY,aT,a1⟩:=fw
   exact⟨b,cap,dp,iY,by rw[e];exact aT,a1⟩
  | jG ty s l=>
   obtain ⟨oU,v,xs,aT,a1,bz,cW⟩:=fw
   refine ⟨oU,v,xs,by rw[e];exact aT,by rw[List.length_map];exact a1,fun i hi=>?_,fun i j hi ah=>?_⟩
   ·rw[List.length_map] at hi;rw[ye hi,jK];exact bz i hi
   ·rw[List.length_map] at hi
    obtain ⟨u,hu,aw,aa⟩:=cW i j hi ah
    rw[ye hi,mY (by rw[bz i hi];exact ah)]
    exact⟨u,hu,vh hS qM aw,aa⟩
  | jX q es=>
   obtain ⟨b,cn,clock,aT,a1,bz⟩:=fw
   exact⟨b,cn,clock,by rw[e];exact aT,hS b a1 (Array.getElem?_eq_some_iff.1 bz.1).1,bz⟩
  | iter left dp=>
   obtain ⟨r,b,cn,clock,since,seen,aS,aT,a1,bz,cW,gA⟩:=fw
   exact⟨r,b,cn,clock,since,seen,aS,by rw[e];exact aT,a1,bz,hS b cW (Array.getElem?_eq_some_iff.1 gA.1).1,gA⟩
 ·obtain ⟨u,I,rfl⟩:=r8 t v hv
  exact vh hS qM (ay.slot t u I)
 ·show(if id=b then ρ a else ρ id)=ρ id
  have:=Nat.le_of_ble_eq_true hn0
  rw[if_neg (by omega)]
theorem pO {st bG:ba} (a:Nat) (hn0:Nat.ble n0 st.next=true:=by rfl)
  (rN:BU (pJ a st.next) st.env bG.env:=by((repeat'(first|exact True.intro|exact⟨_,rfl,rfl⟩|refine And.intro ?_ ?_));done))
  (rO:yG (pJ a st.next) st.heap bG.heap:=by((repeat'(first|exact True.intro|exact⟨0,_,rfl,rfl,rfl⟩|exact⟨1,_,rfl,rfl,rfl⟩|exact⟨2,_,rfl,rfl,rfl⟩|exact⟨3,_,rfl,rfl,rfl⟩|exact⟨4,_,rfl,rfl,rfl⟩|exact⟨5,_,rfl,rfl,rfl⟩|exact⟨6,_,rfl,rfl,rfl⟩|exact⟨7,_,rfl,rfl,rfl⟩|exact⟨8,_,rfl,rfl,rfl⟩|refine And.intro ?_ ?_));done))
  (hn:bG.next=st.next+1:=by rfl) (hnt:bG.ad=st.ad:=by rfl):cu P n0 st bG:=Wg a hn0 rN rO hn hnt
end
theorem Wh {cs:List V} {a s j:Nat} (ah:j<s) (hc:a+s<=cs.length):bx ((cs.drop a).take s) j=bx cs (a+j):=by
 unfold bx
 rw[List.getD_eq_getElem?_getD,List.getD_eq_getElem?_getD,List.getElem?_take,if_pos ah,List.getElem?_drop]
theorem Wi {P:Program} {G:List Nat} {o:Oper} {st:ba} {T e N n s:Nat} {x y:Operand} {cs:List V} {k:IntKind} {m:Int} (aa:o.op = .index T x y) (U:aI st.env x=some (.agg cs)) (ai:aI st.env y=some (.lit (.int k m)))
  (hm:m=(n:Int)) (aV:P.underlying T=some (.array N e)) (hn:n<N) (hc:n * s+s<=cs.length) (bj:jH P e=some true) (ap:dt P e=some s):bw P G o st (.agg ((cs.drop (n * s)).take s)):=
 hs fun F base w0 ρ a w ak ay=>by
  subst hm
  obtain ⟨us,aH,aN,bS⟩:=x3 (c0 ay U)
  have aq:((cs.drop (n * s)).take s).length=s:=by rw[List.length_take,List.length_drop];omega
  have bh:(us.extract (n * s) (n * s+s)).size=s:=by rw[Array.size_extract];omega
  refine ⟨.agg (us.extract (n * s) (n * s+s)),.agg (by rw[bh,aq]) (fun j ah=>?_),fun aE=>?_⟩
  ·rw[aq] at ah
   rw[Wh ah hc]
   have av:=bS (n * s+j) (by omega)
   have hv:(us.extract (n * s) (n * s+s)).getD j undef=us.getD (n * s+j) undef:=by
    rw[Array.getD_eq_getD_getElem?,Array.getD_eq_getD_getElem?,Array.getElem?_extract]
    rw[if_pos (by omega)]
   rw[hv];exact av
  ·unfold execOp;rw[aa];simp only[];rw[aH,ff (c0 ay ai)]
   simp[Instr.index,asIntOf,run_underlying aV,Sem.run_bind,Sem.run_pure,hn,qx ap,part,w9 bj]
section
variable {P:Program} {o:Oper} {n0:Nat} {ops:List Oper} {rest:List Oper} {env:List (Nat×V)} {heap:List (Nat×Option aY)} {next ad:Nat} {Q:ba->Prop}
theorem lX {T e N n s d:Nat} {x y:Operand} {cs r:List V} {k:IntKind} {m:Int} (aa:o.op = .index T x y:=by rfl) (U:aI env x=some (.agg cs):=by rfl) (ai:aI env y=some (.lit (.int k m)):=by rfl)
  (hm:m=(n:Int):=by first|exact uv|exact uw|exact ux|exact uy|rfl) (aV:P.underlying T=some (.array N e):=by rfl) (hn:Nat.blt n N=true:=by rfl) (bj:jH P e=some true:=by rfl) (ap:dt P e=some s:=by rfl) (hc:Nat.ble (n * s+s) cs.length=true:=by rfl) (hr:(cs.drop (n * s)).take s=r:=by rfl)
  (aj:bW env ops o.guard=some true:=by rfl) (hd:o.dst=some d:=by rfl) (aL:Nat.blt d ad=true:=by rfl) (h:a8 P n0 ops.toArray rest ⟨(d,.agg r) :: env,heap,next,ad⟩ Q):a8 P n0 ops.toArray (o :: rest) ⟨env,heap,next,ad⟩ Q:=by
 refine gS aj hd aL ?_ h
 rw[<- hr]
 exact Wi (P:=P) (G:=[]) (st:=⟨env,heap,next,ad⟩) aa U ai hm aV (Nat.le_of_ble_eq_true hn) (Nat.le_of_ble_eq_true hc) bj ap
end
theorem UU {S:Nat->Prop} {w:World} {l fl:List (List V)} {u:Value} (hlen:fl.length=l.length) (dx:∀ i,i<l.length->(bH fl i).length=(bH l i).length)
  (hw:∀ i j,i<l.length->j<(bH l i).length->q3 (bx (bH l i) j) (bx (bH fl i) j)) (h:fP S w (.ro l) u):fP S w (.ro fl) u:=by
 cases h with
 | ro l A c s b off us hc hm aw b1 ap jY hrel=>
  rw[<- hlen] at hc b1 ap jY hrel dx hw ⊢
  exact .ro fl A c s b off us hc hm aw b1 (fun i hi=>by rw[dx i hi];exact ap i hi) jY (fun i j hi ah=>(hw i j hi (by rw[ap i hi];exact ah)).rel (hrel i j hi ah))
end
end Go.Proofs.YtendheafcbickaaGreat
