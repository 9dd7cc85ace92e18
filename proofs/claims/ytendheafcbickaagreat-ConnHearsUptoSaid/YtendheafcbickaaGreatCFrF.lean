
import Derived.Test.YtendheafcbickaaGreatCFrC
set_option linter.unusedVariables false
set_option linter.unusedSimpArgs false
set_option maxHeartbeats 16000000
namespace Go.Proofs.YtendheafcbickaaGreat
set_option maxRecDepth 100000
attribute [local irreducible] cE a6 bu GStep Fn cg bf cA
theorem Up {Q:Nat->Prop}:eu Q 3 ↔ Q 0/\Q 1/\Q 2:=
 ⟨fun h=>⟨h 0 (by omega),h 1 (by omega),h 2 (by omega)⟩,fun h i hi=>by
  rcases (show i=0\/i=1\/i=2 by omega) with rfl|rfl|rfl
  ·exact h.1
  ·exact h.2.1
  ·exact h.2.2⟩
def Nh (x:Bool×Int):List V:=[ab x.1,I x.2]
theorem Uq (k:Int):(hasB k).length<=4:=by
 unfold hasB
 repeat (split;decide)
 decide
theorem Ur (k:Int):fH (hasB k) 114=true ↔ k=2:=by
 rcases Ni k with rfl|rfl|rfl|rfl|rfl|rfl|rfl|rfl|rfl|rfl|rfl|rfl|rfl|rfl|rfl|h
 iterate 15 decide
 rw[(Hs h).2];constructor
 ·intro e;cases e
 ·intro e;omega
theorem LQ (f:bo) (hw:dx f):Fn Tryz.prog 67 [.agg (aO f)] (I (gx f)):=by
 obtain ⟨c4,du,w3,e9,fa,gy,hL⟩:=hw;have J:=Us f.Kind;have ao:=Uq f.Kind;have g1:=u2 (hasB f.Kind) 105 (by omega);have g2:=u2 (hasB f.Kind) 111 (by omega);have g3:=u2 (hasB f.Kind) 99 (by omega);have g4:=u2 (hasB f.Kind) 119 (by omega);have g5:=u2 (hasB f.Kind) 100 (by omega);have g6:=u2 (hasB f.Kind) 102 (by omega);have g7:=u2 (hasB f.Kind) 114 (by omega);have hr:=Ur f.Kind;have ht:=S7 f.ec;unfold gx;generalize fH (hasB f.Kind) 105=tt at *;generalize fH (hasB f.Kind) 111=tu at *;generalize fH (hasB f.Kind) 99=u3 at *;generalize fH (hasB f.Kind) 119=u4 at *;generalize fH (hasB f.Kind) 100=Ht at *;generalize fH (hasB f.Kind) 102=Ut at *;generalize fH (hasB f.Kind) 114=Uu at *;generalize hasB f.Kind=s at *;generalize q6 f.Kind=ag at *;generalize hq:gi f.ec.reverse=q at *;have e:aO f=[I f.Kind,I f.Id,I f.aP,ab f.Fin,I f.Code,.ro (f.ec.map aB),.ro (f.Data.map bm)]:=rfl;rw[e];clear e;generalize f.Fin=fin at *;unfold aE at c4 du w3 e9
 cases ag
 ·rw[al rfl];refine aH Tryz.func67 ?_;(refine bH J ?_;and_intros <;> intros)
  all_goals exact bX (hr:=rfl)
 rw[ah (by simp)];refine aH Tryz.func67 ?_;(repeat' first|refine bh J ?_|(refine fI 6 ?_;(and_intros <;> intros))|fail)
 ·refine bX (hr:=?_);rw[al (by omega)]
 ·refine bX (hr:=?_);rw[al (by omega)]
 rw[ah (by omega)];refine gW ?_;refine je (fun L:List (Bool×Int)=>⟨[(1,.ptr 0 0 0 0),(3,.lit (.string (c7 s))),(47,.ro (L.map Nh)),(48,I 3),(49,I 0)],[(0,some (.box 111 [I f.Kind,I f.Id,I f.aP,ab fin,I f.Code,.ro (f.ec.map aB),.ro (f.Data.map bm)]))],1,Tryz.f67.ntmps⟩) (fun L=>L=[(tt,f.Id),(tu,f.aP),(u3 || u4,f.Code)]) ?_ ?_
 ·clear fa gy hL ht hr
  cases u3
  all_goals (refine yX g1 g2 g3 g4 ?_;and_intros <;> intros)
  all_goals first
   | (exact⟨[(tt,f.Id),(tu,f.aP),(u4,f.Code)],rfl,ba⟩)
   | (exact⟨[(tt,f.Id),(tu,f.aP),(true,f.Code)],rfl,ba⟩)
 rintro L rfl;generalize cw:[(tt,f.Id),(tu,f.aP),(u3 || u4,f.Code)]=L;have abM:L.length=3:=by rw[<- cw];rfl
 have Cg:∀ p ∈ L,-9223372036854775808<=p.2/\p.2<=9223372036854775807:=by
  rw[<- cw];intro p ar;simp only[hX,List.not_mem_nil,or_false] at ar;rcases ar with rfl|rfl|rfl <;> assumption
 have re:(¬ ju tt f.Id \/ ¬ ju tu f.aP \/ ¬ ju (u3 || u4) f.Code) ↔ ¬ eu (fun i=>ju (L.getD i default).1 (L.getD i default).2) 3:=by
  rw[<- cw,Up];show(¬ ju tt f.Id \/ ¬ ju tu f.aP \/ ¬ ju (u3 || u4) f.Code) ↔ ¬ (ju tt f.Id/\ju tu f.aP/\ju (u3 || u4) f.Code);by_cases b6:ju tt f.Id <;> by_cases cU:ju tu f.aP <;> by_cases ek:ju (u3 || u4) f.Code <;> simp[b6,cU,ek]
 have pn:eu (fun i=>ju (L.getD i default).1 (L.getD i default).2) 3->0<=f.aP/\f.aP<=4611686018427387903:=fun h=>by
  have:=h 1 (by omega);rw[<- cw] at this;exact⟨this.1,this.2.1⟩
 clear g1 g2 g3 g4;clear cw;(try refine ay ?_;and_intros <;> intros);refine cv (fun k:Nat=>⟨[(1,.ptr 0 0 0 0),(3,.lit (.string (c7 s))),(47,.ro (L.map Nh)),(48,I 3),(49,I k)],[(0,some (.box 111 [I f.Kind,I f.Id,I f.aP,ab fin,I f.Code,.ro (f.ec.map aB),.ro (f.Data.map bm)]))],1,Tryz.f67.ntmps⟩)
  (fun k=>k<=3/\eu (fun i=>ju (L.getD i default).1 (L.getD i default).2) k) (fun k=>3 - k) 0 ⟨by omega,lP⟩ fP ?_
 rintro k ⟨ag,br⟩;by_cases yY:k<3
 ·have Uv:k<L.length:=by omega
  have qy:=Cg _ (cc Uv);have aw:=iQ (Q:=fun i=>ju (L.getD i default).1 (L.getD i default).2) (k:=k)
  try dsimp only at aw
  (repeat' first|(refine fI 9 ?_;(and_intros <;> intros))|fail);generalize L.getD k default=p at *;obtain ⟨b,n⟩:=p;dsimp only at qy
  cases b
  all_goals (refine mc ?_;and_intros <;> intros)
  all_goals first
   | (exact⟨k+1,(by omega),(by exact⟨yY,aw.2 ⟨br,by unfold ju;simp;omega⟩⟩),ba⟩)
   | (refine bX (hr:=?_);rw[al (re.2 (fun h=>?_))];have:=(aw.1 (fun i hi=>h i (by omega))).2;unfold ju at this;simp at this;omega)
 have yY:k=3:=by omega
 subst yY;rw[ah (fun h=>re.1 h br)];clear re;obtain ⟨yZ,Hu⟩:=pn br;clear br pn Cg;(repeat' first|(refine fI 12 ?_;(and_intros <;> intros))|fail);refine je (fun _:Unit=>⟨[(1,.ptr 0 0 0 0),(3,.lit (.string (c7 s)))],[(0,some (.box 111 [I f.Kind,I f.Id,I f.aP,ab fin,I f.Code,.ro (f.ec.map aB),.ro (f.Data.map bm)]))],1,Tryz.f67.ntmps⟩) (fun _=>¬ (Ht=true/\4611686018427387903<f.aP+f.Data.length)) ?_ ?_
 ·clear gy ht hr
  cases Ht
  all_goals (refine bH g5 ?_;and_intros <;> intros)
  all_goals first
   | (refine bX (hr:=?_);rw[al ⟨rfl,by omega⟩])
   | (exact⟨(),(by simp;try omega),ba⟩)
 intro _ hb;rw[ah hb];clear hb yZ Hu;refine je (fun b:Bool=>⟨[(1,.ptr 0 0 0 0),(3,.lit (.string (c7 s))),(7,ab b)],[(0,some (.box 111 [I f.Kind,I f.Id,I f.aP,ab fin,I f.Code,.ro (f.ec.map aB),.ro (f.Data.map bm)]))],1,Tryz.f67.ntmps⟩) (fun b=>b=true ↔ (f.Kind=2 ↔ 0<f.ec.length)) ?_ ?_
 ·cases Uu
  all_goals (refine bH g7 ?_;and_intros <;> intros)
  all_goals first
   | (exact⟨true,Nj,ba⟩)
   | (exact⟨false,Nj,ba⟩)
 rintro ok bP;clear hr g7;(try refine ay ?_;and_intros <;> intros);refine cv (fun x:Nat×Bool=>⟨[(1,.ptr 0 0 0 0),(3,.lit (.string (c7 s))),(7,ab x.2),(87,.ro (f.ec.map aB)),(88,I f.ec.length),(89,I x.1)],[(0,some (.box 111 [I f.Kind,I f.Id,I f.aP,ab fin,I f.Code,.ro (f.ec.map aB),.ro (f.Data.map bm)]))],1,Tryz.f67.ntmps⟩)
  (fun x=>x.1<=f.ec.length/\(x.2=true ↔ (f.Kind=2 ↔ 0<f.ec.length)/\eu (s4 f.ec) x.1)) (fun x=>f.ec.length - x.1) (0,ok) ⟨cm _,by rw[bP];exact⟨fun h=>⟨h,lP⟩,fun h=>h.1⟩⟩ fP ?_
 rintro ⟨k,ok⟩ ⟨ag,hi⟩;dsimp only at ag hi ⊢;by_cases au:k<f.ec.length
 ·have aw:=iQ (Q:=s4 f.ec) (k:=k);have p2:=gy _ (cc au);unfold fB aE at p2;clear bP gy hL c4 du w3 e9
  cases ok
  ·(try refine ay ?_;and_intros <;> intros)
   all_goals (exact⟨(k+1,false),b4,(by exact⟨au,(fun h=>by cases h),fun h=>by have:=hi.2 ⟨h.1,(aw.1 h.2).1⟩;cases this⟩),ba⟩)
  ·have hi:=hi.1 rfl;have Nk:(k:Int) - 1=((k - 1:Nat):Int)\/k=0:=by omega
   unfold s4 at aw;have ja:∀ r:aK,Fn Tryz.prog 144 [.agg (aB r)] (ab (decide (0<=r.bE/\r.bE<=r.bz/\r.bz<=4611686018427387903))):=x6;by_cases qZ:k=0
   ·subst qZ;(repeat' first|(refine h4 (ja _) (ht:=?_) (hff:=?_) <;> intro _ <;> try (exfalso;omega))|(refine h5 (ja _) (ht:=?_) (hff:=?_) <;> intro _ <;> try (exfalso;omega))|(refine ay ?_;(and_intros <;> intros))|fail)
    all_goals first
     | (exact⟨(1,true),b4,(by exact⟨au,fun _=>⟨hi.1,aw.2 ⟨hi.2,by unfold b9;omega,.inl rfl⟩⟩,fun _=>rfl⟩),ba⟩)
     | (exact⟨(1,false),b4,(by exact⟨au,(fun h=>by cases h),fun h=>(by have aU:=(aw.1 h.2).2.1;unfold b9 at aU;omega)⟩),ba⟩)
   ·have Nk:(k:Int) - 1=((k - 1:Nat):Int):=by omega
    (repeat' first|(refine h4 (ja _) (ht:=?_) (hff:=?_) <;> intro _ <;> try (exfalso;omega))|(refine h5 (ja _) (ht:=?_) (hff:=?_) <;> intro _ <;> try (exfalso;omega))|(refine ay ?_;(and_intros <;> intros))|fail)
    all_goals first
     | (exact⟨(k+1,true),b4,(by exact⟨au,fun _=>⟨hi.1,aw.2 ⟨hi.2,by unfold b9;omega,.inr (by omega)⟩⟩,fun _=>rfl⟩),ba⟩)
     | (exact⟨(k+1,false),b4,(by refine ⟨au,(fun h=>by cases h),fun h=>?_⟩;have aU:=(aw.1 h.2).2;unfold b9 at aU;exfalso;omega),ba⟩)
 ·have:k=f.ec.length:=by omega
  subst this;rw[ht] at hi;clear bP ht ag au gy c4 du w3 e9 J
  cases ok
  ·have hn:¬ ((f.Kind=2 ↔ 0<f.ec.length)/\q=0):=fun h=>by have:=hi.2 h;cases this
   (try refine ay ?_;and_intros <;> intros)
   all_goals (refine bX (hr:=?_);rw[al (by omega)])
  ·have hi:=hi.1 rfl
   cases Ht <;> cases Ut <;> cases fin
   all_goals (refine jJ g5 g6 ?_;and_intros <;> intros)
   all_goals refine bX (hr:=?_)
   all_goals simp only[reduceCtorEq,false_and,true_and,false_or,and_false,and_true,or_false,not_true_eq_false,not_false_eq_true,or_true,true_or,if_true,if_false]
   all_goals first
    | (rw[al (by omega)] <;> rfl)
    | (rw[ah (by omega)] <;> rfl)
    | rfl
end Go.Proofs.YtendheafcbickaaGreat
