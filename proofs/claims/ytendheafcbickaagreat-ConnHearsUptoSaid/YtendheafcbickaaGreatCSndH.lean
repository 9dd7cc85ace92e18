
import Derived.Test.YtendheafcbickaaGreatCMg24
set_option linter.unusedVariables false
set_option linter.unusedSimpArgs false
set_option maxHeartbeats 16000000
namespace Go.Proofs.YtendheafcbickaaGreat
set_option maxRecDepth 100000
attribute [local irreducible] cE a6 bu GStep Fn cg bf cA
def qU (s:ee) (off n:Int) (fin:Bool):Prop:=(0<=off/\off<=s.Next/\0<=n/\n<=s.Next - off)/\(fin=true->s.Fin=true/\s.Next=s.Data.length/\off+n=s.Next)
noncomputable def kd (s:ee) (off n:Int) (fin:Bool):Int:=if lE s≠0 then lE s else if yes (qU s off n fin)=true then 0 else 13
theorem xP (s:ee) (off n:Int) (fin:Bool):(lE s=9/\kd s off n fin=9)\/(lE s=0/\mM s/\qU s off n fin/\kd s off n fin=0)\/(lE s=0/\mM s /\ ¬ qU s off n fin/\kd s off n fin=13):=by
 unfold kd;rcases r6 s with⟨ai,bP⟩ | ⟨ai,re⟩
 ·by_cases h:qU s off n fin
  ·exact .inr (.inl ⟨ai,bP,h,by rw[ah (by omega),al (j6 h)]⟩)
  ·exact .inr (.inr ⟨ai,bP,h,by rw[ah (by omega),ah (by rw[jM h];decide)]⟩)
 ·exact .inl ⟨ai,by rw[al (by omega),ai]⟩
def Zl:aK:=⟨0,0⟩
theorem Zm (s:ee):Fn Tryz.prog 308 [.agg (fc s)] (ab (s.Fin && decide (s.Next=s.Data.length))):=by
 obtain ⟨data,f0,next,jy,lost,dO,hT,b8⟩:=s;dsimp only[fc]
 cases f0
 all_goals simp only[Bool.false_and,Bool.true_and]
 all_goals refine aH Tryz.func308 ?_
 all_goals (try refine ay ?_;and_intros <;> intros)
 all_goals first|exact fq|skip
theorem Qr (s:ee) (off n:Int) (fin:Bool) (hw:hg s) (ae:aE off) (hn:aE n):Fn Tryz.prog 284 [.agg (fc s),I off,I n,ab fin]
  (.bN [.agg (aB (if kd s off n fin=0 then⟨off,off+n - 1⟩ else Zl)),I (kd s off n fin)]):=by
 have J:=CF s hw;have aa:=Zm s;clear hw;unfold aE at ae hn;rcases xP s off n fin with⟨ai,e⟩ | ⟨ai,bP,ar,e⟩ | ⟨ai,bP,ar,e⟩
 ·rw[e,ah (by decide)];rw[ai] at J;clear aa;refine aH Tryz.func284 ?_;(refine bH J ?_;and_intros <;> intros)
  all_goals first|exact fq|skip
 ·rw[e,al rfl];rw[ai] at J;obtain ⟨⟨f1,f2,f3,f4,f5,_,_⟩,lB,vV⟩:=(xp s).1 bP.1.1.1;clear ai e bP;unfold qU at ar;obtain ⟨data,f0,next,jy,lost,dO,hT,b8⟩:=s;dsimp only[fc] at *
  cases f0 <;> cases hT <;> cases b8 <;> cases fin
  all_goals simp only[Dm,Bool.false_and,Bool.true_and,Bool.and_false,Bool.and_true,Bool.or_false,Bool.or_true,Bool.false_or,Bool.true_or,Bool.not_false,Bool.not_true,true_implies,false_implies,Bool.false_eq_true,and_true,true_and,false_and,reduceCtorEq] at lB vV ar aa
  all_goals refine aH Tryz.func284 ?_
  all_goals (repeat' first|refine bh J ?_|(refine h4 (aa) (ht:=?_) (hff:=?_) <;> intro _ <;> try (exfalso;omega))|(refine h5 (aa) (ht:=?_) (hff:=?_) <;> intro _ <;> try (exfalso;omega))|refine bh aa ?_|(refine ay ?_;(and_intros <;> intros))|fail)
  all_goals first
   | (exact gS)
   | (exfalso;first|exact ar.2|omega)
   | skip
 ·rw[e,ah (by decide)];rw[ai] at J;obtain ⟨⟨f1,f2,f3,f4,f5,_,_⟩,lB,vV⟩:=(xp s).1 bP.1.1.1;clear ai e bP;unfold qU at ar;obtain ⟨data,f0,next,jy,lost,dO,hT,b8⟩:=s;dsimp only[fc] at *
  cases f0 <;> cases hT <;> cases b8 <;> cases fin
  all_goals simp only[Dm,Bool.false_and,Bool.true_and,Bool.and_false,Bool.and_true,Bool.or_false,Bool.or_true,Bool.false_or,Bool.true_or,Bool.not_false,Bool.not_true,true_implies,false_implies,Bool.false_eq_true,and_true,true_and,false_and,reduceCtorEq,and_false,not_false_eq_true] at lB vV ar aa
  all_goals refine aH Tryz.func284 ?_
  all_goals (repeat' first|refine bh J ?_|(refine h4 (aa) (ht:=?_) (hff:=?_) <;> intro _ <;> try (exfalso;omega))|(refine h5 (aa) (ht:=?_) (hff:=?_) <;> intro _ <;> try (exfalso;omega))|refine bh aa ?_|(refine ay ?_;(and_intros <;> intros))|fail)
  all_goals first|exact dA|skip
theorem Qq (s:ee) (off n:Int) (fin:Bool) (hw:bT.hg s) (ae:aE off) (hn:aE n):Fn Tryz.prog 297 [.agg (fc s),I off,I n,ab fin]
  (I (kd s off n fin)):=by
 have J:=Cc s hw;clear hw;unfold aE at ae hn;rcases xP s off n fin with⟨ai,e⟩ | ⟨ai,bP,ar,e⟩ | ⟨ai,bP,ar,e⟩
 ·rw[e];rw[ai] at J;refine aH Tryz.func297 ?_;(refine bH J ?_;and_intros <;> intros)
  all_goals first|exact fq|skip
 ·rw[e];rw[ai] at J;obtain ⟨⟨f1,f2,f3,f4,f5,_,_⟩,lB,vV⟩:=(xp s).1 bP.1.1.1;clear ai e bP lB vV;unfold qU at ar;obtain ⟨data,f0,next,jy,lost,dO,hT,b8⟩:=s;dsimp only[fc] at *
  cases f0 <;> cases fin
  all_goals simp only[true_implies,false_implies,Bool.false_eq_true,and_true,true_and,false_and,reduceCtorEq] at ar
  all_goals refine aH Tryz.func297 ?_
  all_goals (refine rI ?_;and_intros <;> intros)
  all_goals first
   | (exact gS)
   | (exfalso;first|exact ar.2|omega)
   | skip
 ·rw[e];rw[ai] at J;obtain ⟨⟨f1,f2,f3,f4,f5,_,_⟩,lB,vV⟩:=(xp s).1 bP.1.1.1;clear ai e bP lB vV;unfold qU at ar;obtain ⟨data,f0,next,jy,lost,dO,hT,b8⟩:=s;dsimp only[fc] at *
  cases f0 <;> cases fin
  all_goals simp only[true_implies,false_implies,Bool.false_eq_true,and_true,true_and,false_and,reduceCtorEq,and_false,not_false_eq_true] at ar
  all_goals refine aH Tryz.func297 ?_
  all_goals (refine rI ?_;and_intros <;> intros)
  all_goals first|exact dA|skip
end Go.Proofs.YtendheafcbickaaGreat
