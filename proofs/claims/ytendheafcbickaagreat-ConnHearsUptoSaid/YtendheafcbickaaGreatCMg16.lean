/-
  SEVERAL TEXTS IN ONE: each with its own comment.
-/
import Derived.Test.YtendheafcbickaaGreatCRgs
set_option linter.unusedVariables false
set_option linter.unusedSimpArgs false
set_option maxHeartbeats 16000000
namespace Go.Proofs.YtendheafcbickaaGreat
section
set_option maxRecDepth 100000
attribute [local irreducible] cE a6 bu GStep Fn cg bf cA
def sU (n:Nat):Nat->List UInt8
 | 0=>[]
 | k+1=>UInt8.ofNat (n / 256 ^ k) :: sU n k
def abN (l:List UInt8) (n k:Nat):List (List V):=(l.take k).map bm++List.replicate (n - k) [.lit (.int .u8 0)]
def abO (l:List UInt8):Int:=l.foldl (fun a c=>IntKind.u64.wrap (IntKind.u64.wrap (a * 256)+c.toNat)) 0
def abP (l:List UInt8):Nat:=l.foldl (fun a c=>a * 256+c.toNat) 0
def hasB (k:Int):List UInt8:=if k=2 then[114] else if k=4 then[105,111,99] else if k=5 then[105,99] else if k=6 then[111,100] else if k=7 then[100] else if k=8 then[105,111,100,102] else if k=16 then[111] else if k=17 then[105,111] else if k=18 then[111] else if k=26 then[119] else if k=27 then[119] else if k=28 then[99] else[]
def q6 (k:Int):Bool:=decide (k=0\/k=1\/k=2\/k=4\/k=5\/k=6\/k=7\/k=8\/k=16\/k=17\/k=18\/k=26\/k=27\/k=28\/k=30)
def fH (s:List UInt8) (c:Int):Bool:=s.any (fun x=>decide ((x.toNat:Int)=c))
theorem Ni (k:Int):k=0\/k=1\/k=2\/k=4\/k=5\/k=6\/k=7\/k=8\/k=16\/k=17\/k=18\/k=26\/k=27\/k=28\/k=30\/(¬ k=0 /\ ¬ k=1 /\ ¬ k=2 /\ ¬ k=4 /\ ¬ k=5 /\ ¬ k=6 /\ ¬ k=7 /\ ¬ k=8 /\ ¬ k=16 /\ ¬ k=17 /\ ¬ k=18 /\ ¬ k=26 /\ ¬ k=27 /\ ¬ k=28 /\ ¬ k=30):=by omega
theorem Hs {k:Int} (h:¬ k=0 /\ ¬ k=1 /\ ¬ k=2 /\ ¬ k=4 /\ ¬ k=5 /\ ¬ k=6 /\ ¬ k=7 /\ ¬ k=8 /\ ¬ k=16 /\ ¬ k=17 /\ ¬ k=18 /\ ¬ k=26 /\ ¬ k=27 /\ ¬ k=28 /\ ¬ k=30):q6 k=false/\hasB k=[]:=by
 unfold q6 hasB;obtain ⟨ai,J,aa,az,bk,dG,h9,oP,nS,nC,se,pk,lx,qi,Nl⟩:=h;refine ⟨decide_eq_false (by omega),?_⟩;rw[ah aa,ah az,ah bk,ah dG,ah h9,ah oP,ah nS,ah nC,ah se,ah pk,ah lx,ah qi]
def LS (s:List UInt8):List V:=[ab (fH s 105),ab (fH s 111),ab (fH s 99 || fH s 119),ab (fH s 100),ab (fH s 102),ab (fH s 119)]
theorem S8 (k:Int):Fn Tryz.prog 122 [I k] (.bN [.agg (LS (hasB k)),ab (q6 k)]):=by
 refine aH Tryz.func122 ?_;(try refine ay ?_;and_intros <;> intros)
 all_goals first
  | (subst_vars;exact bX (hr:=rfl))
  | (refine bX (hr:=?_);obtain ⟨aI,a7⟩:=Hs (k:=k) (by omega);rw[aI,a7];rfl)
def CV:List (Value×Value):=[(.int .i64 0,.string (c7 [])),(.int .i64 1,.string (c7 [])),(.int .i64 2,.string (c7 [114])),(.int .i64 4,.string (c7 [105,111,99])),(.int .i64 5,.string (c7 [105,99])),(.int .i64 6,.string (c7 [111,100])),(.int .i64 7,.string (c7 [100])),(.int .i64 8,.string (c7 [105,111,100,102])),(.int .i64 16,.string (c7 [111])),(.int .i64 17,.string (c7 [105,111])),(.int .i64 18,.string (c7 [111])),(.int .i64 26,.string (c7 [119])),(.int .i64 27,.string (c7 [119])),(.int .i64 28,.string (c7 [99])),(.int .i64 30,.string (c7 []))]
theorem Uw {a b:Int} (h:¬ a=b):mK (.int .i64 a) (.int .i64 b)=false:=by simp[mK,h]
theorem Ux (k:Int):(fU (.int .i64 k) CV).getD (.string (c7 [])) = .string (c7 (hasB k))/\(fU (.int .i64 k) CV).isSome=q6 k:=by
 rcases Ni k with rfl|rfl|rfl|rfl|rfl|rfl|rfl|rfl|rfl|rfl|rfl|rfl|rfl|rfl|rfl|h
 iterate 15 exact⟨rfl,rfl⟩
 obtain ⟨aI,a7⟩:=Hs h;obtain ⟨ai,J,aa,az,bk,dG,h9,oP,nS,nC,se,pk,lx,qi,Nl⟩:=h;have:fU (.int .i64 k) CV=none:=by
  unfold CV;simp only[fU,Uw,ai,J,aa,az,bk,dG,h9,oP,nS,nC,se,pk,lx,qi,Nl,not_false_eq_true,cond_false]
 rw[this,aI,a7];exact⟨rfl,rfl⟩
theorem Us (k:Int):Fn Tryz.prog 142 [I k] (.bN [.lit (.string (c7 (hasB k))),ab (q6 k)]):=by
 obtain ⟨g1,g2⟩:=Ux k;refine aH Tryz.func142 ?_;(repeat' first|(refine Uy (r:=(.string (c7 (hasB k)))) (b:=(q6 k)) ?_ ?_ (h:=?_);(focus ((first|exact g1|exact g2)));(focus ((first|exact g1|exact g2))))|(refine ay ?_;(and_intros <;> intros))|fail)
 all_goals exact bX (hr:=rfl)
theorem u2 (s:List UInt8) (c:Int) (aw:s.length<=1000):Fn Tryz.prog 143 [.lit (.string (c7 s)),.lit (.int .u8 c)] (ab (fH s c)):=by
 refine aH Tryz.func143 ?_;(try refine ay ?_;and_intros <;> intros);refine cv (fun k:Nat=>⟨[(0,.lit (.string (c7 s))),(1,.lit (.int .u8 c)),(5,I k)],[],0,Tryz.f143.ntmps⟩)
  (fun k=>k<=s.length/\eu (fun i=>¬ ((s.getD i default).toNat:Int)=c) k) (fun k=>s.length - k) 0 ⟨cm _,lP⟩ dV ?_
 rintro k ⟨ag,br⟩;by_cases au:k<s.length
 ·(try refine ay ?_;and_intros <;> intros)
  all_goals first
   | (exact⟨k+1,(by omega),⟨au,iQ.2 ⟨br,by assumption⟩⟩,ba⟩)
   | (refine bX (hr:=?_);rw[show fH s c=true from List.any_eq_true.2 ⟨_,cc au,decide_eq_true cu⟩])
 ·(try refine ay ?_;and_intros <;> intros)
  all_goals (refine bX (hr:=?_);rw[show fH s c=false from ?_];refine List.any_eq_false.2 fun x U=>?_;obtain ⟨i,hi,rfl⟩:=List.getElem_of_mem U;have:=br i (by omega);dsimp only at this;rw[bZ,eB hi] at this;simpa using this)
theorem LU (b:Bool) (n:Int):Fn Tryz.prog 123 [ab b,I n] (ab (decide (0<=n/\n<=4611686018427387903/\(b=true\/n=0)))):=by
 cases b
 all_goals refine aH Tryz.func123 ?_
 all_goals (try refine ay ?_;and_intros <;> intros)
 all_goals refine bX (hr:=?_)
 all_goals first
  | (rw[decide_eq_true (by simp;omega)] <;> rfl)
  | (rw[decide_eq_false (by simp;omega)] <;> rfl)
theorem S9 (l:List aK) (hw:∀ y,y ∈ l->fB y) (ao:l.length * 16<=140737488351232):Fn Tryz.prog 124 [.ro (l.map aB)] (ab (decide (gi l.reverse=0))):=by
 have J:=wj l.reverse (fun y aj=>hw y (List.mem_reverse.1 aj)) (by rw[List.length_reverse];omega);refine aH Tryz.func124 ?_;(try refine ay ?_;and_intros <;> intros);refine cv (fun k:Nat=>⟨[(0,.ro (l.map aB)),(4,I ((k:Int) - 1)),(3,.own 0)],[(0,some (.row 146 2 ((l.drop k).reverse.map aB)))],1,Tryz.f124.ntmps⟩)
  (fun k=>k<=l.length) (fun k=>k) l.length (e4 _) (by rw[iJ];exact(iR (n:=0) (t:=3) 146 2 rfl rfl rfl).trans dV) ?_
 intro k ag;by_cases qZ:0<k
 ·have ca:k - 1<l.length:=by omega
  have e:(l.drop (k - 1)).reverse=(l.drop k).reverse++[l.getD (k - 1) default]:=by rw[drop_cons ca,List.reverse_cons,show k - 1+1=k by omega]
  have GP:(l.drop k).length=l.length - k:=mJ;have Nk:(k:Int) - 1=((k - 1:Nat):Int):=by omega
  (repeat' first|(refine kI (r:=((l.drop (k - 1)).reverse).map aB) ?_ ?_ ?_ ?_ (h:=?_);(focus (rw[e,ix];rfl));(focus (exact y0 rfl));(focus ((conv=>lhs;rhs;whnf);simp only[bY,List.length_reverse,eb,fg];omega));(focus (simp only[bY,List.length_reverse,eb,fg];omega)))|(refine ay ?_;(and_intros <;> intros))|fail)
  all_goals (exact⟨k - 1,(by omega),(by omega),ba⟩)
 ·have:k=0:=by omega
  subst this;rw[List.drop_zero];(repeat' first|(refine Uz (J) (h:=?_))|(refine UA (J) (h:=?_))|(refine ay ?_;(and_intros <;> intros))|fail)
  all_goals (refine bX (hr:=?_);first|rw[decide_eq_true cu]|rw[decide_eq_false cu])
end
end Go.Proofs.YtendheafcbickaaGreat
