/-
  SEVERAL TEXTS IN ONE: each with its own comment.
-/
import Derived.Test.YtendheafcbickaaGreatHZip
import Derived.Test.YtendheafcbickaaGreatHGo
import Derived.Test.YtendheafcbickaaGreatHMg07
import Derived.Test.YtendheafcbickaaGreatHMg09
import Derived.Test.YtendheafcbickaaGreatHAbsB

set_option linter.unusedVariables false
set_option linter.unusedSimpArgs false
set_option linter.unusedVariables false
namespace Go.Proofs.YtendheafcbickaaGreat
set_option maxRecDepth 100000
attribute [local irreducible] Run RunL QStep GStep Fn Less PL FnM
def hasB (k:Int):List UInt8:=if k=2 then [114] else if k=4 then [105,111,99] else if k=5 then [105,99] else if k=6 then [111,100] else if k=7 then [100] else if k=8 then [105,111,100,102] else if k=16 then [111] else if k=17 then [105,111] else if k=18 then [111] else if k=26 then [119] else if k=27 then [119] else if k=28 then [99] else []
def kOk (k:Int):Bool:=decide (k=0∨k=1∨k=2∨k=4∨k=5∨k=6∨k=7∨k=8∨k=16∨k=17∨k=18∨k=26∨k=27∨k=28∨k=30)
def hasI (s:List UInt8) (c:Int):Bool:=s.any (fun x=>decide ((x.toNat:Int)=c))
theorem kind_cases (k:Int):k=0∨k=1∨k=2∨k=4∨k=5∨k=6∨k=7∨k=8∨k=16∨k=17∨k=18∨k=26∨k=27∨k=28∨k=30∨(¬ k=0 ∧ ¬ k=1 ∧ ¬ k=2 ∧ ¬ k=4 ∧ ¬ k=5 ∧ ¬ k=6 ∧ ¬ k=7 ∧ ¬ k=8 ∧ ¬ k=16 ∧ ¬ k=17 ∧ ¬ k=18 ∧ ¬ k=26 ∧ ¬ k=27 ∧ ¬ k=28 ∧ ¬ k=30):=by omega
theorem kOk_other {k:Int} (h:¬ k=0 ∧ ¬ k=1 ∧ ¬ k=2 ∧ ¬ k=4 ∧ ¬ k=5 ∧ ¬ k=6 ∧ ¬ k=7 ∧ ¬ k=8 ∧ ¬ k=16 ∧ ¬ k=17 ∧ ¬ k=18 ∧ ¬ k=26 ∧ ¬ k=27 ∧ ¬ k=28 ∧ ¬ k=30):kOk k=false∧hasB k=[]:=by
  unfold kOk hasB
  obtain ⟨h0,h1,h2,h3,h4,h5,h6,h7,h8,h9,h10,h11,h12,h13,h14⟩:=h
  refine ⟨decide_eq_false (by omega),?_⟩
  rw [if_neg h2,if_neg h3,if_neg h4,if_neg h5,if_neg h6,if_neg h7,if_neg h8,if_neg h9,if_neg h10,if_neg h11,if_neg h12,if_neg h13]
def encPs (s:List UInt8):List V:=[.lit (.bool (hasI s 105)),.lit (.bool (hasI s 111)),.lit (.bool (hasI s 99 || hasI s 119)),.lit (.bool (hasI s 100)),.lit (.bool (hasI s 102)),.lit (.bool (hasI s 119))]
set_option maxHeartbeats 2000000 in
theorem partsOf_fn (k:Int):Fn Tryz.prog 122 [.lit (.int .i64 k)] (.tup [.agg (encPs (hasB k)),.lit (.bool (kOk k))]):=by
  refine fn_of_run (by kernel_rfl) Tryz.func122 rfl (by kernel_rfl) ?_
  (repeat' first|(refine go_ ?_;((repeat' first|exact True.intro|refine Two.mk ?_ ?_);all_goals intros))|fail "")
  all_goals first
    | (subst_vars;exact ends_ (hr:=rfl))
    | (refine ends_ (hr:=?_);obtain ⟨e1,e2⟩:=kOk_other (k:=k) (by omega);rw [e1,e2];rfl)
def hasM:List (Value×Value):=[(.int .i64 0,.string (strB [])),(.int .i64 1,.string (strB [])),(.int .i64 2,.string (strB [114])),(.int .i64 4,.string (strB [105,111,99])),(.int .i64 5,.string (strB [105,99])),(.int .i64 6,.string (strB [111,100])),(.int .i64 7,.string (strB [100])),(.int .i64 8,.string (strB [105,111,100,102])),(.int .i64 16,.string (strB [111])),(.int .i64 17,.string (strB [105,111])),(.int .i64 18,.string (strB [111])),(.int .i64 26,.string (strB [119])),(.int .i64 27,.string (strB [119])),(.int .i64 28,.string (strB [99])),(.int .i64 30,.string (strB []))]
theorem kEq_ne {a b:Int} (h:¬ a=b):kEq (.int .i64 a) (.int .i64 b)=false:=by simp [kEq,h]
theorem hasM_look (k:Int):(mlook (.int .i64 k) hasM).getD (.string (strB [])) = .string (strB (hasB k))∧(mlook (.int .i64 k) hasM).isSome=kOk k:=by
  rcases kind_cases k with rfl|rfl|rfl|rfl|rfl|rfl|rfl|rfl|rfl|rfl|rfl|rfl|rfl|rfl|rfl|h
  iterate 15 exact ⟨rfl,rfl⟩
  obtain ⟨e1,e2⟩:=kOk_other h
  obtain ⟨h0,h1,h2,h3,h4,h5,h6,h7,h8,h9,h10,h11,h12,h13,h14⟩:=h
  have:mlook (.int .i64 k) hasM=none:=by
    unfold hasM
    simp only [mlook,kEq_ne,h0,h1,h2,h3,h4,h5,h6,h7,h8,h9,h10,h11,h12,h13,h14,not_false_eq_true,cond_false]
  rw [this,e1,e2]
  exact ⟨rfl,rfl⟩
set_option maxHeartbeats 2000000 in
theorem has_fn (k:Int):Fn Tryz.prog 142 [.lit (.int .i64 k)] (.tup [.lit (.string (strB (hasB k))),.lit (.bool (kOk k))]):=by
  obtain ⟨g1,g2⟩:=hasM_look k
  refine fn_of_run (by kernel_rfl) Tryz.func142 rfl (by kernel_rfl) ?_
  (repeat' first|(refine s_look2 (r:=(.string (strB (hasB k)))) (b:=(kOk k)) ?_ ?_ (h:=?_);(focus ((first|exact g1|exact g2)));(focus ((first|exact g1|exact g2))))|(refine go_ ?_;((repeat' first|exact True.intro|refine Two.mk ?_ ?_);all_goals intros))|fail "")
  all_goals exact ends_ (hr:=rfl)
theorem in_fn (s:List UInt8) (c:Int) (hs:s.length≤1000):Fn Tryz.prog 143 [.lit (.string (strB s)),.lit (.int .u8 c)] (.lit (.bool (hasI s c))):=by
  refine fn_of_run (by kernel_rfl) Tryz.func143 rfl (by kernel_rfl) ?_
  (repeat' first|(refine go_ ?_;((repeat' first|exact True.intro|refine Two.mk ?_ ?_);all_goals intros))|fail "")
  refine r_for (fun k:Nat=>⟨[(0,.lit (.string (strB s))),(1,.lit (.int .u8 c)),(5,.lit (.int .i64 k))],[],0,Tryz.f143.ntmps⟩)
    (fun k=>k≤s.length∧AllTo (fun i=>¬ ((s.getD i default).toNat:Int)=c) k) (fun k=>s.length - k) 0 ⟨Nat.zero_le _,allTo0⟩ less_to ?_
  rintro k ⟨hk,ha⟩
  by_cases hkn:k<s.length
  · (repeat' first|(refine go_ ?_;((repeat' first|exact True.intro|refine Two.mk ?_ ?_);all_goals intros))|fail "")
    all_goals first
      | (refine ⟨k+1,?_,?_,?_⟩;rotate_left 2;(exact lessA_);(exact Z69_);(focus (exact ⟨hkn,allTo_succ.2 ⟨ha,by assumption⟩⟩)))
      | (refine ends_ (hr:=?_);rw [show hasI s c=true from List.any_eq_true.2 ⟨_,getD_mem hkn,decide_eq_true (by assumption)⟩])
  · (repeat' first|(refine go_ ?_;((repeat' first|exact True.intro|refine Two.mk ?_ ?_);all_goals intros))|fail "")
    all_goals (refine ends_ (hr:=?_);rw [show hasI s c=false from ?_];refine List.any_eq_false.2 fun x hx=>?_;obtain ⟨i,hi,rfl⟩:=List.getElem_of_mem hx;have:=ha i (by omega);dsimp only at this;rw [List.getD_eq_getElem?_getD,List.getElem?_eq_getElem hi] at this;simpa using this)
theorem may_fn (b:Bool) (n:Int):Fn Tryz.prog 123 [.lit (.bool b),.lit (.int .i64 n)] (.lit (.bool (decide (0≤n∧n≤4611686018427387903∧(b=true∨n=0))))):=by
  cases b
  all_goals refine fn_of_run (by kernel_rfl) Tryz.func123 rfl (by kernel_rfl) ?_
  all_goals (repeat' first|(refine go_ ?_;((repeat' first|exact True.intro|refine Two.mk ?_ ?_);all_goals intros))|fail "")
  all_goals refine ends_ (hr:=?_)
  all_goals first
    | (rw [decide_eq_true (by simp;omega)] <;> rfl)
    | (rw [decide_eq_false (by simp;omega)] <;> rfl)
theorem frameTold_fn (l:List DRange) (hw:∀ y,y ∈ l→wfRange y) (hl:l.length * 16≤140737488351232):Fn Tryz.prog 124 [.ro (l.map encRange)] (.lit (.bool (decide (rFlt l.reverse=0)))):=by
  have h1:=rangesCheck_fn l.reverse (fun y hy=>hw y (List.mem_reverse.1 hy)) (by rw [List.length_reverse];omega)
  refine fn_of_run (by kernel_rfl) Tryz.func124 rfl (by kernel_rfl) ?_
  (repeat' first|(refine go_ ?_;((repeat' first|exact True.intro|refine Two.mk ?_ ?_);all_goals intros))|fail "")
  refine r_for (fun k:Nat=>⟨[(0,.ro (l.map encRange)),(4,.lit (.int .i64 ((k:Int) - 1))),(3,.own 0)],[(0,some (.row 146 2 ((l.drop k).reverse.map encRange)))],1,Tryz.f124.ntmps⟩)
    (fun k=>k≤l.length) (fun k=>k) l.length (Nat.le_refl _) (by rw [List.drop_length];exact (less_own (n:=0) (t:=3) 146 2 rfl rfl rfl).trans less_to) ?_
  intro k hk
  by_cases hk0:0<k
  · have hkl:k - 1<l.length:=by omega
    have e:(l.drop (k - 1)).reverse=(l.drop k).reverse++[l.getD (k - 1) default]:=by rw [drop_cons hkl,List.reverse_cons,show k - 1+1=k by omega]
    have htl:(l.drop k).length=l.length - k:=List.length_drop
    have ek:(k:Int) - 1=((k - 1:Nat):Int):=by omega
    (repeat' first|(refine s_app (r:=((l.drop (k - 1)).reverse).map encRange) ?_ ?_ ?_ ?_ (h:=?_);(focus (rw [e,List.map_append];rfl));(focus (exact len_one rfl));(exact Z19_);(exact Z33_))|(refine go_ ?_;((repeat' first|exact True.intro|refine Two.mk ?_ ?_);all_goals intros))|fail "")
    all_goals (refine ⟨k - 1,?_,?_,?_⟩;rotate_left 2;(exact lessA_);(exact Z69_);(exact Z69_))
  · have:k=0:=by omega
    subst this
    rw [List.drop_zero]
    (repeat' first|(refine s_snap (h1) (h:=?_))|(refine p_snapO (h1) (h:=?_))|(refine go_ ?_;((repeat' first|exact True.intro|refine Two.mk ?_ ?_);all_goals intros))|fail "")
    all_goals (refine ends_ (hr:=?_);first|rw [decide_eq_true (by assumption)]|rw [decide_eq_false (by assumption)])
end Go.Proofs.YtendheafcbickaaGreat


set_option linter.unusedVariables false
set_option linter.unusedSimpArgs false
set_option linter.unusedVariables false
namespace Go.Proofs.YtendheafcbickaaGreat
set_option maxRecDepth 100000
attribute [local irreducible] Run RunL QStep GStep Fn Less PL FnM
def mayP (b:Bool) (n:Int):Prop:=0≤n∧n≤4611686018427387903∧(b=true∨n=0)
instance (b:Bool) (n:Int):Decidable (mayP b n):=inferInstanceAs (Decidable (_∧_))
def downQ (l:List DRange) (i:Nat):Prop:=rGood (l.getD i default)∧(i=0∨(l.getD i default).Hi+1<(l.getD (i - 1) default).Lo)
def frFlt (f:DFrame):Int:=
  if kOk f.Kind=false then 2 else if 120<f.Data.length∨6<f.Ranges.length then 1
  else if ¬ mayP (hasI (hasB f.Kind) 105) f.Id ∨ ¬ mayP (hasI (hasB f.Kind) 111) f.Off ∨ ¬ mayP (hasI (hasB f.Kind) 99 || hasI (hasB f.Kind) 119) f.Code then 6
  else if hasI (hasB f.Kind) 100=true∧4611686018427387903<f.Off+f.Data.length then 6
  else if (hasI (hasB f.Kind) 100=false∧0<f.Data.length)∨(hasI (hasB f.Kind) 102=false∧f.Fin=true) ∨ ¬ (f.Kind=2 ↔ 0<f.Ranges.length)∨rFlt f.Ranges.reverse≠0 then 3 else 0
theorem rSet_snoc {r:DRange}:∀ {l:List DRange} {a:Int},rSet a (l++[r]) ↔ rSet a l∧rGood r∧a+2≤r.Lo ∧ ∀ x ∈ l,x.Hi+2≤r.Lo:=by
  intro l
  induction l with
  | nil=>intro a;simp [rSet]
  | cons y l ih=>
    intro a
    simp only [List.cons_append,rSet,ih,List.mem_cons]
    constructor
    · rintro ⟨h1,h2,h3,h4,h5,h6⟩
      refine ⟨⟨h1,h2,h3⟩,h4,?_,?_⟩
      · unfold rGood at h1;omega
      · rintro x (rfl|hx)
        · exact h5
        · exact h6 x hx
    · rintro ⟨⟨h1,h2,h3⟩,h4,h5,h6⟩
      exact ⟨h1,h2,h3,h4,h6 y (.inl rfl),fun x hx=>h6 x (.inr hx)⟩
def downL:List DRange→Prop
  | []=>True
  | [r]=>rGood r
  | r :: x :: l=>rGood r∧x.Hi+2≤r.Lo∧downL (x :: l)
theorem downL_top {r:DRange}:∀ {l:List DRange},downL (r :: l) → ∀ x ∈ l,x.Hi+2≤r.Lo:=by
  intro l
  induction l generalizing r with
  | nil=>intro _ x hx;cases hx
  | cons y l ih=>
    intro h x hx
    rcases List.mem_cons.1 hx with rfl|hx
    · exact h.2.1
    · have h1:=ih h.2.2 x hx
      have h2:rGood y:=by
        have:=h.2.2
        cases l with
        | nil=>exact this
        | cons _ _=>exact this.1
      have:=h.2.1
      unfold rGood at h2
      omega
theorem rSet_of_down:∀ {l:List DRange},downL l ↔ rSet (-2) l.reverse:=by
  intro l
  induction l with
  | nil=>simp [downL,rSet]
  | cons r l ih=>
    rw [List.reverse_cons,rSet_snoc,← ih]
    cases l with
    | nil => simp only [downL, List.reverse_nil, List.not_mem_nil, false_implies, implies_true, and_true, true_and]; constructor
             · intro h;refine ⟨h,?_⟩;unfold rGood at h;omega
             · intro h;exact h.1
    | cons x l=>
      constructor
      · intro h
        have h1:rGood r:=h.1
        refine ⟨h.2.2,h1,?_,fun y hy=>downL_top h y (List.mem_reverse.1 hy)⟩
        unfold rGood at h1;omega
      · rintro ⟨h1,h2,h3,h4⟩
        exact ⟨h2,h4 x (by simp),h1⟩
theorem downQ_of (l:List DRange):AllTo (downQ l) l.length ↔ downL l:=by
  induction l with
  | nil=>simp [downL,AllTo]
  | cons r l ih=>
    have hs:∀ i,downQ (r :: l) (i+1) ↔ rGood (l.getD i default)∧(l.getD i default).Hi+1<((r :: l).getD i default).Lo:=fun i=>by
      unfold downQ;simp
    constructor
    · intro h
      have h0:=h 0 (by simp)
      have h0g:rGood r:=h0.1
      have ht:AllTo (downQ l) l.length:=fun i hi=>by
        have:=(hs i).1 (h (i+1) (by simpa using hi))
        refine ⟨this.1,?_⟩
        by_cases hi0:i=0
        · exact .inl hi0
        · refine .inr ?_
          have h2:=this.2
          obtain ⟨j,rfl⟩:∃ j,i=j+1:=⟨i - 1,by omega⟩
          simpa using h2
      have hd:=ih.1 ht
      cases l with
      | nil=>exact h0g
      | cons x l=>
        have:=(hs 0).1 (h 1 (by simp))
        exact ⟨h0g,by have:=this.2;simp at this;omega,hd⟩
    · intro h
      have h0g:rGood r:=by cases l with
        | nil=>exact h
        | cons _ _=>exact h.1
      have hd:downL l:=by cases l with
        | nil=>trivial
        | cons _ _=>exact h.2.2
      have ht:=ih.2 hd
      intro i hi
      cases i with
      | zero=>exact ⟨h0g,.inl rfl⟩
      | succ i=>
        have hil:i<l.length:=by simpa using hi
        refine (hs i).2 ⟨(ht i hil).1,?_⟩
        have:=downL_top h _ (getD_mem hil)
        cases i with
        | zero=>simp at *;omega
        | succ j=>
          have h3:=(ht (j+1) hil).2
          rcases h3 with h3|h3
          · omega
          · simpa using h3
theorem told_iff (l:List DRange):AllTo (downQ l) l.length ↔ rFlt l.reverse=0:=by
  rw [downQ_of,rSet_of_down]
  unfold rFlt
  split
  · simp [*]
  · simp [*]
set_option maxHeartbeats 4000000 in
theorem frameCheck_fn (f:DFrame) (hw:wfFrame f):Fn Tryz.prog 59 [.agg (encFrame f)] (.lit (.int .i64 (frFlt f))):=by
  obtain ⟨w1,w2,w3,w4,w5,w6,w7⟩:=hw
  have h1:=partsOf_fn f.Kind
  have h2:=frameTold_fn f.Ranges w6 w5
  unfold frFlt
  unfold encPs at h1
  unfold I64 at *
  generalize hasI (hasB f.Kind) 105=hi at *
  generalize hasI (hasB f.Kind) 111=ho at *
  generalize (hasI (hasB f.Kind) 99 || hasI (hasB f.Kind) 119)=hc at *
  generalize hasI (hasB f.Kind) 100=hd at *
  generalize hasI (hasB f.Kind) 102=hf at *
  generalize hasI (hasB f.Kind) 119=hx at *
  generalize kOk f.Kind=hk at *
  generalize rFlt f.Ranges.reverse=q at *
  have e:encFrame f=[.lit (.int .i64 f.Kind),.lit (.int .i64 f.Id),.lit (.int .i64 f.Off),.lit (.bool f.Fin),.lit (.int .i64 f.Code),.ro (f.Ranges.map encRange),.ro (f.Data.map encB)]:=rfl
  rw [e]
  generalize f.Fin=fin
  cases hk
  · rw [if_pos rfl]
    refine fn_of_run (by kernel_rfl) Tryz.func59 rfl (by kernel_rfl) ?_
    (repeat' first|(refine s_call (h1) (h:=?_))|(refine p_call (h1) (h:=?_))|(refine go_ ?_;((repeat' first|exact True.intro|refine Two.mk ?_ ?_);all_goals intros))|fail "")
    all_goals exact ends_ (hr:=rfl)
  · rw [if_neg (by simp)]
    refine fn_of_run (by kernel_rfl) Tryz.func59 rfl (by kernel_rfl) ?_
    (repeat' first|(refine s_call (h1) (h:=?_))|(refine p_call (h1) (h:=?_))|(refine s_dec (may_fn _ _) (ht:=?_) (hff:=?_) <;> intro _ <;> try (exfalso;omega))|(refine p_dec (may_fn _ _) (ht:=?_) (hff:=?_) <;> intro _ <;> try (exfalso;omega))|(refine goU_ 8 ?_;((repeat' first|exact True.intro|refine Two.mk ?_ ?_);all_goals intros))|fail "")
    · refine ends_ (hr:=?_)
      rw [if_pos (by omega)]
    · refine ends_ (hr:=?_)
      rw [if_pos (by omega)]
    all_goals first
      | (refine ends_ (hr:=?_);rw [if_neg (by omega),if_pos (by first|exact .inl (by assumption)|exact .inr (.inl (by assumption))|exact .inr (.inr (by assumption)))])
      | skip
    rw [if_neg (by omega),if_neg (by rintro (h|h|h) <;> exact h (by assumption))]
    have g3:mayP ho f.Off:=by assumption
    unfold mayP at g3
    have g4:=g3.1
    have g5:=g3.2.1
    cases hd <;> cases hf <;> cases fin
    all_goals (repeat' first|(refine s_dec (h2) (ht:=?_) (hff:=?_) <;> intro _ <;> try (exfalso;omega))|(refine p_dec (h2) (ht:=?_) (hff:=?_) <;> intro _ <;> try (exfalso;omega))|(refine go_ ?_;((repeat' first|exact True.intro|refine Two.mk ?_ ?_);all_goals intros))|fail "")
    all_goals refine ends_ (hr:=?_)
    all_goals simp only [reduceCtorEq,false_and,true_and,false_or,and_false,and_true,or_false,not_true_eq_false,not_false_eq_true,or_true,true_or,if_true,if_false]
    all_goals first
      | (rw [if_pos (by omega)] <;> rfl)
      | (rw [if_neg (by omega)] <;> rfl)
      | (rw [if_neg (by omega),if_pos (by omega)] <;> rfl)
      | (rw [if_neg (by omega),if_neg (by omega)] <;> rfl)
      | rfl
end Go.Proofs.YtendheafcbickaaGreat
