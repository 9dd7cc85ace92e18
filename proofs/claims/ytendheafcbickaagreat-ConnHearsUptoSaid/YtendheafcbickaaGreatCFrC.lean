
import Derived.Test.YtendheafcbickaaGreatCMg16
set_option linter.unusedVariables false
set_option linter.unusedSimpArgs false
set_option maxHeartbeats 16000000
namespace Go.Proofs.YtendheafcbickaaGreat
set_option maxRecDepth 100000
attribute [local irreducible] cE a6 bu GStep Fn cg bf cA
def ju (b:Bool) (n:Int):Prop:=0<=n/\n<=4611686018427387903/\(b=true\/n=0)
instance (b:Bool) (n:Int):Decidable (ju b n):=inferInstanceAs (Decidable (_/\_))
def s4 (l:List aK) (i:Nat):Prop:=b9 (l.getD i default)/\(i=0\/(l.getD i default).bz+1<(l.getD (i - 1) default).bE)
def gx (f:bo):Int:=
 if q6 f.Kind=false then 2 else if 120<f.Data.length\/6<f.ec.length then 1
 else if ¬ ju (fH (hasB f.Kind) 105) f.Id \/ ¬ ju (fH (hasB f.Kind) 111) f.aP \/ ¬ ju (fH (hasB f.Kind) 99 || fH (hasB f.Kind) 119) f.Code then 6
 else if fH (hasB f.Kind) 100=true/\4611686018427387903<f.aP+f.Data.length then 6
 else if (fH (hasB f.Kind) 100=false/\0<f.Data.length)\/(fH (hasB f.Kind) 102=false/\f.Fin=true) \/ ¬ (f.Kind=2 ↔ 0<f.ec.length)\/gi f.ec.reverse≠0 then 3 else 0
theorem S3 {r:aK}:∀ {l:List aK} {a:Int},eD a (l++[r]) ↔ eD a l/\b9 r/\a+2<=r.bE /\ ∀ x ∈ l,x.bz+2<=r.bE:=by
 intro l;induction l with
 | nil=>intro a;simp[eD]
 | cons y l bU=>
  intro a;simp only[jv,eD,bU,hX];constructor
  ·rintro ⟨J,aa,az,bk,dG,h9⟩;refine ⟨⟨J,aa,az⟩,bk,?_,?_⟩
   ·unfold b9 at J;omega
   ·rintro x (rfl|U)
    ·exact dG
    ·exact h9 x U
  ·rintro ⟨⟨J,aa,az⟩,bk,dG,h9⟩;exact⟨J,aa,az,bk,h9 y (.inl rfl),fun x U=>h9 x (.inr U)⟩
def s5:List aK->Prop
 | []=>True
 | [r]=>b9 r
 | r :: x :: l=>b9 r/\x.bz+2<=r.bE/\s5 (x :: l)
theorem LR {r:aK}:∀ {l:List aK},s5 (r :: l) -> ∀ x ∈ l,x.bz+2<=r.bE:=by
 intro l;induction l generalizing r with
 | nil=>intro _ x U;cases U
 | cons y l bU=>
  intro h x U;rcases hX.1 U with rfl|U
  ·exact h.2.1
  ·have J:=bU h.2.2 x U;have aa:b9 y:=by
    have:=h.2.2
    cases l with
    | nil=>exact this
    | cons _ _=>exact this.1
   have:=h.2.1;unfold b9 at aa;omega
theorem S4:∀ {l:List aK},s5 l ↔ eD (-2) l.reverse:=by
  intro l;induction l with
  | nil=>simp[s5,eD]
  | cons r l bU=>
    rw[List.reverse_cons,S3,<- bU]
    cases l with
    | nil => simp only [s5, List.reverse_nil, List.not_mem_nil, false_implies, implies_true, and_true, true_and]; constructor
             · intro h;refine ⟨h,?_⟩;unfold b9 at h;omega
             · intro h;exact h.1
    | cons x l=>
      constructor
      · intro h;have J:b9 r:=h.1;refine ⟨h.2.2,J,?_,fun y aj=>LR h y (List.mem_reverse.1 aj)⟩;unfold b9 at J;omega
      · rintro ⟨J,aa,az,bk⟩;exact⟨aa,bk x (by simp),J⟩
theorem S5 (l:List aK):eu (s4 l) l.length ↔ s5 l:=by
 induction l with
 | nil=>simp[s5,eu]
 | cons r l bU=>
  have aw:∀ i,s4 (r :: l) (i+1) ↔ b9 (l.getD i default)/\(l.getD i default).bz+1<((r :: l).getD i default).bE:=fun i=>by
   unfold s4;simp
  constructor
  ·intro h;have ai:=h 0 (by simp);have Ch:b9 r:=ai.1;have ht:eu (s4 l) l.length:=fun i hi=>by
    have:=(aw i).1 (h (i+1) (by simpa using hi));refine ⟨this.1,?_⟩;by_cases S6:i=0
    ·exact .inl S6
    ·refine .inr ?_;have aa:=this.2;obtain ⟨j,rfl⟩:∃ j,i=j+1:=⟨i - 1,by omega⟩;simpa using aa
   have hd:=bU.1 ht
   cases l with
   | nil=>exact Ch
   | cons x l=>
    have:=(aw 0).1 (h 1 (by simp));exact⟨Ch,by have:=this.2;simp at this;omega,hd⟩
  ·intro h;have Ch:b9 r:=by cases l with
    | nil=>exact h
    | cons _ _=>exact h.1
   have hd:s5 l:=by cases l with
    | nil=>trivial
    | cons _ _=>exact h.2.2
   have ht:=bU.2 hd;intro i hi
   cases i with
   | zero=>exact⟨Ch,.inl rfl⟩
   | succ i=>
    have jL:i<l.length:=by simpa using hi
    refine (aw i).2 ⟨(ht i jL).1,?_⟩;have:=LR h _ (cc jL)
    cases i with
    | zero=>simp at *;omega
    | succ j=>
     have az:=(ht (j+1) jL).2;rcases az with az|az
     ·omega
     ·simpa using az
theorem S7 (l:List aK):eu (s4 l) l.length ↔ gi l.reverse=0:=by
 rw[S5,S4];unfold gi;split
 ·simp[*]
 ·simp[*]
theorem F6 (f:bo) (hw:dx f):Fn Tryz.prog 59 [.agg (aO f)] (I (gx f)):=by
 obtain ⟨c4,du,w3,e9,fa,gy,hL⟩:=hw;have J:=S8 f.Kind;have aa:=S9 f.ec gy fa;unfold gx;unfold LS at J;unfold aE at *;generalize fH (hasB f.Kind) 105=hi at *;generalize fH (hasB f.Kind) 111=ae at *;generalize (fH (hasB f.Kind) 99 || fH (hasB f.Kind) 119)=hc at *;generalize fH (hasB f.Kind) 100=hd at *;generalize fH (hasB f.Kind) 102=hf at *;generalize fH (hasB f.Kind) 119=U at *;generalize q6 f.Kind=ag at *;generalize gi f.ec.reverse=q at *;have e:aO f=[I f.Kind,I f.Id,I f.aP,ab f.Fin,I f.Code,.ro (f.ec.map aB),.ro (f.Data.map bm)]:=rfl;rw[e];generalize f.Fin=fin
 cases ag
 ·rw[al rfl];refine aH Tryz.func59 ?_;(refine bH J ?_;and_intros <;> intros)
  all_goals exact bX (hr:=rfl)
 ·rw[ah (by simp)];refine aH Tryz.func59 ?_;(repeat' first|refine bh J ?_|(refine h4 (LU _ _) (ht:=?_) (hff:=?_) <;> intro _ <;> try (exfalso;omega))|(refine h5 (LU _ _) (ht:=?_) (hff:=?_) <;> intro _ <;> try (exfalso;omega))|(refine fI 8 ?_;(and_intros <;> intros))|fail)
  ·refine bX (hr:=?_);rw[al (by omega)]
  ·refine bX (hr:=?_);rw[al (by omega)]
  all_goals first
   | (refine bX (hr:=?_);rw[ah (by omega),al (by first|exact .inl cu|exact .inr (.inl cu)|exact .inr (.inr cu))])
   | skip
  rw[ah (by omega),ah (by rintro (h|h|h) <;> exact h cu)];have g3:ju ae f.aP:=by assumption
  unfold ju at g3;have g4:=g3.1;have g5:=g3.2.1
  cases hd <;> cases hf <;> cases fin
  all_goals (repeat' first|(refine h4 (aa) (ht:=?_) (hff:=?_) <;> intro _ <;> try (exfalso;omega))|(refine h5 (aa) (ht:=?_) (hff:=?_) <;> intro _ <;> try (exfalso;omega))|(refine ay ?_;(and_intros <;> intros))|fail)
  all_goals refine bX (hr:=?_)
  all_goals simp only[reduceCtorEq,false_and,true_and,false_or,and_false,and_true,or_false,not_true_eq_false,not_false_eq_true,or_true,true_or,if_true,if_false]
  all_goals first
   | (rw[al (by omega)] <;> rfl)
   | (rw[ah (by omega)] <;> rfl)
   | (rw[ah (by omega),al (by omega)] <;> rfl)
   | (rw[ah (by omega),ah (by omega)] <;> rfl)
   | rfl
end Go.Proofs.YtendheafcbickaaGreat
