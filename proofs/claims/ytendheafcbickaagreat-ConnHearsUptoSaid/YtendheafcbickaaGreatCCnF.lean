
import Derived.Test.YtendheafcbickaaGreatCMg10
import Derived.Test.YtendheafcbickaaGreatCSpaceF
import Derived.Test.YtendheafcbickaaGreatCFrF
set_option linter.unusedVariables false
set_option linter.unusedSimpArgs false
set_option maxHeartbeats 16000000
namespace Go.Proofs.YtendheafcbickaaGreat
variable {l:List eN}
set_option maxRecDepth 100000
attribute [local irreducible] cE a6 bu GStep Fn cg bf cA
theorem Ca {α:Type} [Inhabited α] {l:List α} {Q:α->Prop}:eu (fun i=>Q (l.getD i default)) l.length ↔ ∀ x ∈ l,Q x:=by
 constructor
 ·intro h x U;obtain ⟨i,hi,rfl⟩:=List.getElem_of_mem U;have:=h i hi;dsimp only at this;rwa [bZ,eB hi] at this
 ·intro h i hi;exact h _ (cc hi)
def kh (l:List eN):List bo:=(l.map (·.Frames)).flatten
theorem SX {k:Nat} (h:k<l.length):kh (l.take (k+1))=kh (l.take k)++(l.getD k default).Frames:=by
 unfold kh;rw[List.take_add_one,eB h,bZ,eB h];simp only[ix,List.flatten_append,Option.toList,iM,sZ,List.flatten_cons,List.flatten_nil,lV,Option.getD]
theorem FX {f:bo}:f ∈ kh l ↔ ∃ p ∈ l,f ∈ p.Frames:=by
 unfold kh;simp only[List.mem_flatten,List.mem_map];constructor
 ·rintro ⟨_,⟨p,ar,rfl⟩,hf⟩;exact⟨p,ar,hf⟩
 ·rintro ⟨p,ar,hf⟩;exact⟨_,⟨p,ar,rfl⟩,hf⟩
theorem SY (c:aG):s0 c ↔ ((mF c/\nh c)/\eu (ni c) c.aq.length)/\eu (fun i=>gx ((c.Queue++kh c.aQ.aR).getD i default)=0) (c.Queue++kh c.aQ.aR).length:=by
 have aI:=Ca (l:=c.Queue++kh c.aQ.aR) (Q:=fun x=>gx x=0);have a7:=Ca (l:=c.Queue) (Q:=fun x=>gx x=0);have cC:=Ca (l:=c.aQ.aR) (Q:=fun p=>pu p.Frames p.Frames.length);have eI:=fun l:List bo=>Ca (l:=l) (Q:=fun x=>gx x=0)
 unfold s0;constructor
 ·rintro ⟨⟨J,aa⟩,az⟩;refine ⟨J,aI.2 fun x U=>?_⟩;rcases gr.1 U with U|U
  ·exact a7.1 aa x U
  ·obtain ⟨p,ar,hf⟩:=FX.1 U;exact(eI _).1 (cC.1 az p ar) x hf
 ·rintro ⟨J,aa⟩;have aa:=aI.1 aa;exact⟨⟨J,a7.2 fun x U=>aa x (gr.2 (.inl U))⟩,cC.2 fun p ar=>(eI _).2 fun x U=>aa x (gr.2 (.inr (FX.2 ⟨p,ar,U⟩)))⟩
theorem SZ (c:aG) (hu:W.fw c):Fn Tryz.prog 66 [.agg (cj c)] (I (nj c)):=by
 have hw:=W.qa c hu;obtain ⟨w0,c4,du,w3,e9,fa,gy,hL,ki,oK,kj,lW,lX,nV⟩:=hw;have gz:c.aQ.aR.length<=1048576:=by have:=hu.1.2.1;omega
 have mG:∀ y,y ∈ c.aQ.aR->bT.ji y:=hu.1.2.2.1;have eg:∀ y,y ∈ c.aQ.aR->ji y:=w0.2.2.1;have s3:∀ y,y ∈ c.aq->W.jK y:=hu.2.2.2.2.2.2.2.2.1;have FY:c.Queue.length<=1048576:=by have:=hu.2.2.2.2.2.2.2.2.2.1;omega
 have J:=FZ c.aQ w0;have aa:=LO c.cy c4;have az:=Cb c.di;have bk:=Cb c.eh;clear w0 c4 du w3 hu;unfold aE at e9 fa gy lW lX nV;have uH:=SY c;refine aH Tryz.func66 ?_;refine gW ?_;refine nW ?_;(repeat' first|(refine q5 ?_;(and_intros <;> intros))|fail);refine nX ?_;refine je (fun ok:Bool=>⟨[(1,.ptr 0 0 0 0),(2,I 0),(3,ab ok)],[(0,some (.box 51 (cj c)))],1,Tryz.f66.ntmps⟩) (fun ok=>ok=true ↔ mF c/\nh c) ?_ ?_
 ·unfold mF nh;(repeat' first|refine bh J ?_|refine bh aa ?_|refine bh az ?_|refine bh bk ?_|(refine h4 (hW _ _) (ht:=?_) (hff:=?_) <;> intro _ <;> try (exfalso;omega))|(refine h5 (hW _ _) (ht:=?_) (hff:=?_) <;> intro _ <;> try (exfalso;omega))|(refine ay ?_;(and_intros <;> intros))|fail)
  all_goals first|exact F0|skip
 rintro ok bP;clear J aa az bk e9 fa lW lX nV;have hK:c.aq.length<=1000000000000000:=by omega
 clear hL oK;(try refine ay ?_;and_intros <;> intros);refine cv (fun x:Nat×Bool=>⟨[(1,.ptr 0 0 0 0),(2,I 0),(3,ab x.2),(76,.ro (c.aq.map eo)),(77,I c.aq.length),(78,I x.1)],[(0,some (.box 51 (cj c)))],1,Tryz.f66.ntmps⟩)
  (fun x=>x.1<=c.aq.length/\(x.2=true ↔ (mF c/\nh c)/\eu (ni c) x.1)) (fun x=>c.aq.length - x.1) (0,ok) ⟨cm _,by rw[bP];exact⟨fun h=>⟨h,lP⟩,fun h=>h.1⟩⟩ wE ?_
 clear ok bP;rintro ⟨k,ok⟩ ⟨ag,hi⟩;dsimp only at ag hi ⊢;by_cases au:k<c.aq.length
 ·have aw:=iQ (Q:=ni c) (k:=k);have uI:=ki _ (cc au);have nk:=s3 _ (cc au);have J:=Fu _ uI.2.1;have aa:=Cc _ nk.2.2.2;have S0:=uI.2.2.1;have abA:=uI.1;clear gz mG eg s3 uH FY ki kj
  cases ok
  ·have hi:¬ ((mF c/\nh c)/\eu (ni c) k):=fun h=>by have:=hi.2 h;cases this
   (try refine ay ?_;and_intros <;> intros)
   all_goals first|exact ys|skip
  ·obtain ⟨hh,br⟩:=hi.1 rfl;have fb:0<=c.cN:=hh.2.2.2.2.2.1;have abB:IntKind.i64.wrap (c.cN - 1)=c.cN - 1:=by rw[IntKind.wrap_i64];omega
   rcases Nat.eq_zero_or_pos k with ai|ai
   ·subst ai;unfold ni at aw;rw[F1] at aw;(repeat' first|refine bh J ?_|refine bh aa ?_|(refine h4 (hW _ _) (ht:=?_) (hff:=?_) <;> intro _ <;> try (exfalso;omega))|(refine h5 (hW _ _) (ht:=?_) (hff:=?_) <;> intro _ <;> try (exfalso;omega))|(refine ay ?_;(and_intros <;> intros))|fail)
    all_goals first
     | (exact⟨(0+1,true),b4,⟨au,fun _=>⟨hh,aw.2 ⟨br,by omega⟩⟩,fun _=>rfl⟩,ba⟩)
     | (exact⟨(0+1,false),b4,F2,ba⟩)
     | skip
   ·obtain ⟨j,rfl⟩:∃ j,k=j+1:=⟨k - 1,by omega⟩;have S1:=br j (by omega);have wv:0<=(c.aq.getD j default).Id:=by
     clear aw hi;have:∀ i,i<=j->0<=(c.aq.getD i default).Id:=by
      intro i;induction i with
      | zero=>intro _;have:=(br 0 (by omega)).1;rw[F1] at this;omega
      | succ i bU=>intro hi;have:=(br (i+1) (by omega)).1;rw[Cd] at this;have:=bU (by omega);omega
     exact this j (e4 _)
    clear S1;unfold ni at aw;rw[Cd] at aw;have abC:((j+1:Nat):Int) - 1=(j:Int):=by omega
    (repeat' first|refine bh J ?_|refine bh aa ?_|(refine h4 (hW _ _) (ht:=?_) (hff:=?_) <;> intro _ <;> try (exfalso;omega))|(refine h5 (hW _ _) (ht:=?_) (hff:=?_) <;> intro _ <;> try (exfalso;omega))|(refine ay ?_;(and_intros <;> intros))|fail)
    all_goals (try simp only[Nat.add_sub_cancel] at *)
    all_goals first
     | (exact⟨(j+1+1,true),b4,⟨au,fun _=>⟨hh,aw.2 ⟨br,by omega⟩⟩,fun _=>rfl⟩,ba⟩)
     | (exact⟨(j+1+1,false),b4,F2,ba⟩)
     | skip
 have ca:k=c.aq.length:=by omega
 subst ca;clear ki s3 au ag;generalize ((mF c/\nh c)/\eu (ni c) c.aq.length)=B at *;(repeat' first|refine eP (c.Queue.map aO) ?_|(refine ay ?_;(and_intros <;> intros))|fail);refine cv (fun k:Nat=>⟨[(2,I 0),(3,ab ok),(6,.own 0),(133,.ro (c.aQ.aR.map bC)),(134,I c.aQ.aR.length),(135,I k)],[(0,some (.row 111 7 ((c.Queue++kh (c.aQ.aR.take k)).map aO)))],1,Tryz.f66.ntmps⟩)
  (fun k=>k<=c.aQ.aR.length/\(kh (c.aQ.aR.take k)).length<=k * 1048576) (fun k=>c.aQ.aR.length - k) 0 ⟨cm _,cm _⟩ (by(try dsimp only);rw[show c.Queue++kh (c.aQ.aR.take 0)=c.Queue from lV _];(exact ba)) ?_
 rintro k ⟨ag,ca⟩;by_cases au:k<c.aQ.aR.length
 ·have rR:=(mG _ (cc au)).2.2.2.1;have LP:=SX au;have hle:k * 1048576<=1048576 * 1048576:=kk _ (by omega);have wF:(c.Queue++kh (c.aQ.aR.take k)).length=c.Queue.length+(kh (c.aQ.aR.take k)).length:=eE;have Ce:(kh (c.aQ.aR.take (k+1))).length=(kh (c.aQ.aR.take k)).length+(c.aQ.aR.getD k default).Frames.length:=by rw[LP,eE]
  (repeat' first|(refine kI (r:=(c.Queue++kh (c.aQ.aR.take (k+1))).map aO) ?_ ?_ ?_ ?_ (h:=?_);(exact Cf);(exact dm);(exact dp);(exact dq))|(refine k9 (r:=(c.Queue++kh (c.aQ.aR.take (k+1))).map aO) ?_ ?_ ?_ ?_ (h:=?_);(exact Cf);(exact dm);(exact dp);(exact dq))|(refine la (r:=(c.Queue++kh (c.aQ.aR.take (k+1))).map aO) ?_ ?_ ?_ ?_ (h:=?_);(exact Cf);(exact dm);(exact dp);(exact dq))|(refine kl (r:=(c.Queue++kh (c.aQ.aR.take (k+1))).map aO) ?_ ?_ ?_ ?_ (h:=?_);(exact Cf);(exact dm);(exact dp);(exact dq))|(refine ay ?_;(and_intros <;> intros))|fail)
  all_goals first
   | (exact⟨k+1,(by omega),⟨au,by omega⟩,ba⟩)
   | skip
 have S2:k=c.aQ.aR.length:=by omega
 subst S2;rw[List.take_length] at *;have hle:c.aQ.aR.length * 1048576<=1048576 * 1048576:=kk _ (by omega);have abD:(c.Queue++kh c.aQ.aR).length<=1000000000000000:=by rw[eE];omega
 have Cg:∀ f ∈ c.Queue++kh c.aQ.aR,dx f:=fun f hf=>by
  rcases gr.1 hf with hf|hf
  ·exact kj f hf
  ·obtain ⟨p,ar,hf⟩:=FX.1 hf;exact(eg p ar).2.2.2.2 f hf
 clear hle ca ag au mG eg kj FY gz;generalize c.Queue++kh c.aQ.aR=L at *;(try refine ay ?_;and_intros <;> intros);refine cv (fun x:Nat×Bool=>⟨[(2,I 0),(3,ab x.2),(144,.ro (L.map aO)),(145,I L.length),(146,I x.1)],[],0,Tryz.f66.ntmps⟩)
  (fun x=>x.1<=L.length/\(x.2=true ↔ B/\eu (fun i=>gx (L.getD i default)=0) x.1)) (fun x=>L.length - x.1) (0,ok) ⟨cm _,by rw[hi];exact⟨fun h=>⟨h,lP⟩,fun h=>h.1⟩⟩ wE ?_
 clear ok hi;rintro ⟨k,ok⟩ ⟨ag,hi⟩;dsimp only at ag hi ⊢;by_cases au:k<L.length
 ·have aw:=iQ (Q:=fun i=>gx (L.getD i default)=0) (k:=k);have J:=LQ _ (Cg _ (cc au))
  cases ok
  ·have hi:¬ (B/\eu (fun i=>gx (L.getD i default)=0) k):=fun h=>by have:=hi.2 h;cases this
   (try refine ay ?_;and_intros <;> intros)
   all_goals first|exact ys|skip
  ·obtain ⟨hh,br⟩:=hi.1 rfl;(refine bH J ?_;and_intros <;> intros)
   all_goals first|exact F3|skip
 have ca:k=L.length:=by omega
 subst ca
 cases ok
 ·rw[F4 (fun h=>by have:=hi.2 (uH.1 h);cases this)];(try refine ay ?_;and_intros <;> intros)
  all_goals exact bX (hr:=rfl)
 ·rw[F5 (uH.2 (hi.1 rfl))];(try refine ay ?_;and_intros <;> intros)
  all_goals exact bX (hr:=rfl)
end Go.Proofs.YtendheafcbickaaGreat
