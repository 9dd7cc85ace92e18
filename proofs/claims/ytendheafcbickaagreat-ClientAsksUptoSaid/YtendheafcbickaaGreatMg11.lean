/-
  SEVERAL TEXTS IN ONE: each with its own comment.
-/
import Derived.Test.YtendheafcbickaaGreatGo
import Derived.Test.YtendheafcbickaaGreatMg10
import Derived.Test.YtendheafcbickaaGreatZip
import Derived.Test.YtendheafcbickaaGreatMg07
import Derived.Test.YtendheafcbickaaGreatMg08

set_option linter.unusedVariables false
set_option linter.unusedSimpArgs false
set_option linter.unusedVariables false
namespace Go.Proofs.YtendheafcbickaaGreat
set_option maxRecDepth 100000
attribute [local irreducible] Run RunL QStep GStep Fn Less PL FnM
def mayP (b:Bool) (n:Int):Prop:=0≤n∧n≤4611686018427387903∧(b=true∨n=0)
instance (b:Bool) (n:Int):Decidable (mayP b n):=inferInstanceAs (Decidable (_∧_))
def downQ (l:List DRange) (i:Nat):Prop:=rGood (l.getD i default)∧(i=0∨(l.getD i default).Hi+1<(l.getD (i - 1) default).Lo)
def frFlt (f:DFrame):Int:=
  if kOk f.Kind=false then 2 else if 120<f.Data.length∨6<f.Ranges.length then 1
  else if ¬ mayP (hasI (hasB f.Kind) 105) f.Id ∨ ¬ mayP (hasI (hasB f.Kind) 111) f.Off ∨ ¬ mayP (hasI (hasB f.Kind) 99 || hasI (hasB f.Kind) 119) f.Code then 6
  else if hasI (hasB f.Kind) 100=true∧4611686018427387903<f.Off+f.Data.length then 6
  else if (hasI (hasB f.Kind) 100=false∧0<f.Data.length)∨(hasI (hasB f.Kind) 102=false∧f.Fin=true) ∨ ¬ (f.Kind=2 ↔ 0<f.Ranges.length)∨rFlt f.Ranges.reverse≠0 then 3 else 0
theorem rSet_snoc {r:DRange}:∀ {l:List DRange} {a:Int},rSet a (l++[r]) ↔ rSet a l∧rGood r∧a+2≤r.Lo ∧ ∀ x ∈ l,x.Hi+2≤r.Lo:=by
  intro l
  induction l with
  | nil=>intro a;simp [rSet]
  | cons y l ih=>
    intro a
    simp only [List.cons_append,rSet,ih,List.mem_cons]
    constructor
    · rintro ⟨h1,h2,h3,h4,h5,h6⟩
      refine ⟨⟨h1,h2,h3⟩,h4,?_,?_⟩
      · unfold rGood at h1;omega
      · rintro x (rfl|hx)
        · exact h5
        · exact h6 x hx
    · rintro ⟨⟨h1,h2,h3⟩,h4,h5,h6⟩
      exact ⟨h1,h2,h3,h4,h6 y (.inl rfl),fun x hx=>h6 x (.inr hx)⟩
def downL:List DRange→Prop
  | []=>True
  | [r]=>rGood r
  | r :: x :: l=>rGood r∧x.Hi+2≤r.Lo∧downL (x :: l)
theorem downL_top {r:DRange}:∀ {l:List DRange},downL (r :: l) → ∀ x ∈ l,x.Hi+2≤r.Lo:=by
  intro l
  induction l generalizing r with
  | nil=>intro _ x hx;cases hx
  | cons y l ih=>
    intro h x hx
    rcases List.mem_cons.1 hx with rfl|hx
    · exact h.2.1
    · have h1:=ih h.2.2 x hx
      have h2:rGood y:=by
        have:=h.2.2
        cases l with
        | nil=>exact this
        | cons _ _=>exact this.1
      have:=h.2.1
      unfold rGood at h2
      omega
theorem rSet_of_down:∀ {l:List DRange},downL l ↔ rSet (-2) l.reverse:=by
  intro l
  induction l with
  | nil=>simp [downL,rSet]
  | cons r l ih=>
    rw [List.reverse_cons,rSet_snoc,← ih]
    cases l with
    | nil => simp only [downL, List.reverse_nil, List.not_mem_nil, false_implies, implies_true, and_true, true_and]; constructor
             · intro h;refine ⟨h,?_⟩;unfold rGood at h;omega
             · intro h;exact h.1
    | cons x l=>
      constructor
      · intro h
        have h1:rGood r:=h.1
        refine ⟨h.2.2,h1,?_,fun y hy=>downL_top h y (List.mem_reverse.1 hy)⟩
        unfold rGood at h1;omega
      · rintro ⟨h1,h2,h3,h4⟩
        exact ⟨h2,h4 x (by simp),h1⟩
theorem downQ_of (l:List DRange):AllTo (downQ l) l.length ↔ downL l:=by
  induction l with
  | nil=>simp [downL,AllTo]
  | cons r l ih=>
    have hs:∀ i,downQ (r :: l) (i+1) ↔ rGood (l.getD i default)∧(l.getD i default).Hi+1<((r :: l).getD i default).Lo:=fun i=>by
      unfold downQ;simp
    constructor
    · intro h
      have h0:=h 0 (by simp)
      have h0g:rGood r:=h0.1
      have ht:AllTo (downQ l) l.length:=fun i hi=>by
        have:=(hs i).1 (h (i+1) (by simpa using hi))
        refine ⟨this.1,?_⟩
        by_cases hi0:i=0
        · exact .inl hi0
        · refine .inr ?_
          have h2:=this.2
          obtain ⟨j,rfl⟩:∃ j,i=j+1:=⟨i - 1,by omega⟩
          simpa using h2
      have hd:=ih.1 ht
      cases l with
      | nil=>exact h0g
      | cons x l=>
        have:=(hs 0).1 (h 1 (by simp))
        exact ⟨h0g,by have:=this.2;simp at this;omega,hd⟩
    · intro h
      have h0g:rGood r:=by cases l with
        | nil=>exact h
        | cons _ _=>exact h.1
      have hd:downL l:=by cases l with
        | nil=>trivial
        | cons _ _=>exact h.2.2
      have ht:=ih.2 hd
      intro i hi
      cases i with
      | zero=>exact ⟨h0g,.inl rfl⟩
      | succ i=>
        have hil:i<l.length:=by simpa using hi
        refine (hs i).2 ⟨(ht i hil).1,?_⟩
        have:=downL_top h _ (getD_mem hil)
        cases i with
        | zero=>simp at *;omega
        | succ j=>
          have h3:=(ht (j+1) hil).2
          rcases h3 with h3|h3
          · omega
          · simpa using h3
theorem told_iff (l:List DRange):AllTo (downQ l) l.length ↔ rFlt l.reverse=0:=by
  rw [downQ_of,rSet_of_down]
  unfold rFlt
  split
  · simp [*]
  · simp [*]
set_option maxHeartbeats 4000000 in
theorem frameCheck_fn (f:DFrame) (hw:wfFrame f):Fn Tryz.prog 59 [.agg (encFrame f)] (.lit (.int .i64 (frFlt f))):=by
  obtain ⟨w1,w2,w3,w4,w5,w6,w7⟩:=hw
  have h1:=partsOf_fn f.Kind
  have h2:=frameTold_fn f.Ranges w6 w5
  unfold frFlt
  unfold encPs at h1
  unfold I64 at *
  generalize hasI (hasB f.Kind) 105=hi at *
  generalize hasI (hasB f.Kind) 111=ho at *
  generalize (hasI (hasB f.Kind) 99 || hasI (hasB f.Kind) 119)=hc at *
  generalize hasI (hasB f.Kind) 100=hd at *
  generalize hasI (hasB f.Kind) 102=hf at *
  generalize hasI (hasB f.Kind) 119=hx at *
  generalize kOk f.Kind=hk at *
  generalize rFlt f.Ranges.reverse=q at *
  have e:encFrame f=[.lit (.int .i64 f.Kind),.lit (.int .i64 f.Id),.lit (.int .i64 f.Off),.lit (.bool f.Fin),.lit (.int .i64 f.Code),.ro (f.Ranges.map encRange),.ro (f.Data.map encB)]:=rfl
  rw [e]
  generalize f.Fin=fin
  cases hk
  · rw [if_pos rfl]
    refine fn_of_run (by kernel_rfl) Tryz.func59 rfl (by kernel_rfl) ?_
    (repeat' first|(refine s_call (h1) (h:=?_))|(refine p_call (h1) (h:=?_))|(refine go_ ?_;((repeat' first|exact True.intro|refine Two.mk ?_ ?_);all_goals intros))|fail "")
    all_goals exact ends_ (hr:=rfl)
  · rw [if_neg (by simp)]
    refine fn_of_run (by kernel_rfl) Tryz.func59 rfl (by kernel_rfl) ?_
    (repeat' first|(refine s_call (h1) (h:=?_))|(refine p_call (h1) (h:=?_))|(refine s_dec (may_fn _ _) (ht:=?_) (hff:=?_) <;> intro _ <;> try (exfalso;omega))|(refine p_dec (may_fn _ _) (ht:=?_) (hff:=?_) <;> intro _ <;> try (exfalso;omega))|(refine goU_ 8 ?_;((repeat' first|exact True.intro|refine Two.mk ?_ ?_);all_goals intros))|fail "")
    · refine ends_ (hr:=?_)
      rw [if_pos (by omega)]
    · refine ends_ (hr:=?_)
      rw [if_pos (by omega)]
    all_goals first
      | (refine ends_ (hr:=?_);rw [if_neg (by omega),if_pos (by first|exact .inl (by assumption)|exact .inr (.inl (by assumption))|exact .inr (.inr (by assumption)))])
      | skip
    rw [if_neg (by omega),if_neg (by rintro (h|h|h) <;> exact h (by assumption))]
    have g3:mayP ho f.Off:=by assumption
    unfold mayP at g3
    have g4:=g3.1
    have g5:=g3.2.1
    cases hd <;> cases hf <;> cases fin
    all_goals (repeat' first|(refine s_dec (h2) (ht:=?_) (hff:=?_) <;> intro _ <;> try (exfalso;omega))|(refine p_dec (h2) (ht:=?_) (hff:=?_) <;> intro _ <;> try (exfalso;omega))|(refine go_ ?_;((repeat' first|exact True.intro|refine Two.mk ?_ ?_);all_goals intros))|fail "")
    all_goals refine ends_ (hr:=?_)
    all_goals simp only [reduceCtorEq,false_and,true_and,false_or,and_false,and_true,or_false,not_true_eq_false,not_false_eq_true,or_true,true_or,if_true,if_false]
    all_goals first
      | (rw [if_pos (by omega)] <;> rfl)
      | (rw [if_neg (by omega)] <;> rfl)
      | (rw [if_neg (by omega),if_pos (by omega)] <;> rfl)
      | (rw [if_neg (by omega),if_neg (by omega)] <;> rfl)
      | rfl
end Go.Proofs.YtendheafcbickaaGreat


set_option linter.unusedVariables false
set_option linter.unusedSimpArgs false
set_option linter.unusedVariables false
namespace Go.Proofs.YtendheafcbickaaGreat
set_option maxRecDepth 100000
attribute [local irreducible] Run RunL QStep GStep Fn Less PL FnM
def cnA (c:DConn):Prop:=spFlt c.Space=0∧paceFlt c.Pace=0∧flwFlt c.Flow=0∧flwFlt c.Credit=0
def cnNum (c:DConn):Prop:=0≤c.Ids∧c.Ids≤4611686018427387903∧0≤c.Grant∧c.Grant≤4611686018427387903∧0≤c.Opened∧(c.Opened≤c.Ids∨c.Opened≤c.Grant)∧c.Lanes.length≤4∧c.Queue.length≤12∧0≤c.Last∧c.Last≤1099511627776∧0≤c.Resets∧c.Resets≤4
def lnPrev (l:List DLane) (i:Nat):Int:=if i=0 then -1 else (l.getD (i - 1) default).Id
theorem lnPrev_0 (l:List DLane):lnPrev l 0 = -1:=rfl
theorem lnPrev_s (l:List DLane) (i:Nat):lnPrev l (i+1)=(l.getD i default).Id:=by
  unfold lnPrev
  rw [if_neg (by omega),Nat.add_sub_cancel]
def lnOk (c:DConn) (i:Nat):Prop:=lnPrev c.Lanes i<(c.Lanes.getD i default).Id∧(c.Lanes.getD i default).Id<c.Opened∧gatherFlt (c.Lanes.getD i default).In=0∧sndFlt (c.Lanes.getD i default).Out=0∧(c.Lanes.getD i default).Read.length≤800
def frsOk (l:List DFrame) (n:Nat):Prop:=AllTo (fun i=>frFlt (l.getD i default)=0) n
def cnOk (c:DConn):Prop:=(((cnA c∧cnNum c)∧AllTo (lnOk c) c.Lanes.length)∧frsOk c.Queue c.Queue.length)∧AllTo (fun i=>frsOk (c.Space.Sent.getD i default).Frames (c.Space.Sent.getD i default).Frames.length) c.Space.Sent.length
noncomputable def cnFlt (c:DConn):Int:=if yes (cnOk c)=true then 0 else 9
theorem cnFlt_t {c:DConn} (h:cnOk c):cnFlt c=0:=if_pos (yes_of h)
theorem cnFlt_f {c:DConn} (h:¬ cnOk c):cnFlt c=9:=if_neg (by rw [no_of h];exact Bool.false_ne_true)
theorem cnFlt_cases (c:DConn):(cnFlt c=0∧cnOk c)∨(cnFlt c=9 ∧ ¬ cnOk c):=by
  by_cases h:cnOk c
  · exact .inl ⟨cnFlt_t h,h⟩
  · exact .inr ⟨cnFlt_f h,h⟩
set_option maxHeartbeats 4000000 in
theorem connCheck_fn (c:DConn) (hw:wfConn c):Fn Tryz.prog 58 [.agg (encConn c)] (.lit (.int .i64 (cnFlt c))):=by
  obtain ⟨w0,w1,w2,w3,w4,w5,w6,w7,w8,w9,w10,w11,w12,w13⟩:=hw
  have l2:c.Space.Sent.length≤1000000000000000:=by have:=w0.2.1;omega
  have l3:∀ y,y ∈ c.Space.Sent→wfParcel y:=w0.2.2.1
  have h1:=spaceCheck_fn c.Space w0
  have h2:=paceCheck_fn c.Pace
  have h3:=flwCheck_fn c.Flow
  have h4:=flwCheck_fn c.Credit
  clear w0 w1 w2 w3
  unfold I64 at w4 w5 w6 w11 w12 w13
  refine fn_of_run (by kernel_rfl) Tryz.func58 rfl (by kernel_rfl) ?_
  refine r_seq ?_
  refine r_region ?_
  (repeat' first|(refine goS_ ?_;((repeat' first|exact True.intro|refine Two.mk ?_ ?_);all_goals intros))|fail "")
  refine thenQ_n ?_
  refine r_cut (fun ok:Bool=>⟨[(1,.ptr 0 0 0 0),(2,.lit (.int .i64 0)),(3,.lit (.bool ok))],[(0,some (.box 51 (encConn c)))],1,Tryz.f58.ntmps⟩) (fun ok=>ok=true ↔ cnA c) ?_ ?_
  · unfold cnA
    (repeat' first|(refine s_call (h1) (h:=?_))|(refine p_call (h1) (h:=?_))|(refine s_call (h2) (h:=?_))|(refine p_call (h2) (h:=?_))|(refine s_call (h3) (h:=?_))|(refine p_call (h3) (h:=?_))|(refine s_call (h4) (h:=?_))|(refine p_call (h4) (h:=?_))|(refine go_ ?_;((repeat' first|exact True.intro|refine Two.mk ?_ ?_);all_goals intros))|fail "")
    all_goals first
      | (refine ⟨true,?_,?_⟩;rotate_left 1;(exact lessA_);(exact Z60_))
      | (refine ⟨false,?_,?_⟩;rotate_left 1;(exact lessA_);(exact Z53_))
      | skip
  rintro ok hok
  clear h1 h2 h3 h4
  refine r_cut (fun ok:Bool=>⟨[(1,.ptr 0 0 0 0),(2,.lit (.int .i64 0)),(3,.lit (.bool ok))],[(0,some (.box 51 (encConn c)))],1,Tryz.f58.ntmps⟩) (fun ok=>ok=true ↔ cnA c∧cnNum c) ?_ ?_
  · unfold cnNum
    cases ok
    · have hn:¬ cnA c:=fun h=>by have:=hok.2 h;cases this
      clear hok
      (repeat' first|(refine go_ ?_;((repeat' first|exact True.intro|refine Two.mk ?_ ?_);all_goals intros))|fail "")
      all_goals first
        | (refine ⟨false,?_,?_⟩;rotate_left 1;(exact lessA_);(focus (exact ⟨(fun h=>by cases h),fun h=>absurd h.1 hn⟩)))
        | skip
    · have hn:=hok.1 rfl
      clear hok
      (repeat' first|(refine go_ ?_;((repeat' first|exact True.intro|refine Two.mk ?_ ?_);all_goals intros))|fail "")
      all_goals first
        | (refine ⟨true,?_,?_⟩;rotate_left 1;(exact lessA_);(focus (exact ⟨fun _=>⟨hn,by omega⟩,fun _=>rfl⟩)))
        | (refine ⟨false,?_,?_⟩;rotate_left 1;(exact lessA_);(focus (exact ⟨(fun h=>by cases h),fun h=>(by have:=h.2;omega)⟩)))
        | skip
  clear ok hok w4 w5 w6 w11 w12 w13
  rintro ok hok
  have hll:c.Lanes.length≤1000000000000000:=by omega
  have hql:c.Queue.length≤1000000000000000:=by omega
  clear w7 w9
  (repeat' first|(refine go_ ?_;((repeat' first|exact True.intro|refine Two.mk ?_ ?_);all_goals intros))|fail "")
  refine r_for (fun x:Nat×Bool=>⟨[(1,.ptr 0 0 0 0),(2,.lit (.int .i64 0)),(3,.lit (.bool x.2)),(4,.lit (.int .i64 (lnPrev c.Lanes x.1))),(104,.ro (c.Lanes.map encLane)),(105,.lit (.int .i64 c.Lanes.length)),(106,.lit (.int .i64 x.1))],[(0,some (.box 51 (encConn c)))],1,Tryz.f58.ntmps⟩)
    (fun x=>x.1≤c.Lanes.length∧(x.2=true ↔ (cnA c∧cnNum c)∧AllTo (lnOk c) x.1)) (fun x=>c.Lanes.length - x.1) (0,ok) ⟨Nat.zero_le _,by rw [hok];exact ⟨fun h=>⟨h,allTo0⟩,fun h=>h.1⟩⟩ (by (try dsimp only);rw [lnPrev_0];(exact lessA_)) ?_
  clear ok hok
  rintro ⟨k,ok⟩ ⟨hk,hi⟩
  dsimp only at hk hi ⊢
  by_cases hkn:k<c.Lanes.length
  · have hs:=allTo_succ (Q:=lnOk c) (k:=k)
    have hp:=lnPrev_s c.Lanes k
    have hwl:=w8 _ (getD_mem hkn)
    have h1:=gatherCheck_fn _ hwl.2.1
    have h2:=senderCheck_fn _ hwl.2.2.2
    have hwr:=hwl.2.2.1
    cases ok
    · have hi:¬ ((cnA c∧cnNum c)∧AllTo (lnOk c) k):=fun h=>by have:=hi.2 h;cases this
      generalize lnPrev c.Lanes k=pv
      (repeat' first|(refine go_ ?_;((repeat' first|exact True.intro|refine Two.mk ?_ ?_);all_goals intros))|fail "")
      all_goals first
        | (refine ⟨(k+1,false),?_,?_,?_⟩;rotate_left 2;(exact lessA_);(exact Z66_);(exact Z41_))
        | skip
    · obtain ⟨hh,ha⟩:=hi.1 rfl
      unfold lnOk at hs
      generalize lnPrev c.Lanes k=pv at *
      (repeat' first|(refine s_call (h1) (h:=?_))|(refine p_call (h1) (h:=?_))|(refine s_call (h2) (h:=?_))|(refine p_call (h2) (h:=?_))|(refine go_ ?_;((repeat' first|exact True.intro|refine Two.mk ?_ ?_);all_goals intros))|fail "")
      all_goals first
        | (refine ⟨(k+1,true),?_,?_,?_⟩;rotate_left 2;(exact lessA_);(exact Z66_);(exact Z47_))
        | (refine ⟨(k+1,false),?_,?_,?_⟩;rotate_left 2;(exact lessA_);(exact Z66_);(exact Z22_))
        | skip
  have hkl:k=c.Lanes.length:=by omega
  subst hkl
  clear w8 hkn hk
  (repeat' first|(refine go_ ?_;((repeat' first|exact True.intro|refine Two.mk ?_ ?_);all_goals intros))|fail "")
  refine r_for (fun x:Nat×Bool=>⟨[(1,.ptr 0 0 0 0),(2,.lit (.int .i64 0)),(3,.lit (.bool x.2)),(146,.ro (c.Queue.map encFrame)),(147,.lit (.int .i64 c.Queue.length)),(148,.lit (.int .i64 x.1))],[(0,some (.box 51 (encConn c)))],1,Tryz.f58.ntmps⟩)
    (fun x=>x.1≤c.Queue.length∧(x.2=true ↔ ((cnA c∧cnNum c)∧AllTo (lnOk c) c.Lanes.length)∧frsOk c.Queue x.1)) (fun x=>c.Queue.length - x.1) (0,ok) ⟨Nat.zero_le _,by rw [hi];exact ⟨fun h=>⟨h,allTo0⟩,fun h=>h.1⟩⟩ (by (try dsimp only);(exact lessA_)) ?_
  clear ok hi
  rintro ⟨k,ok⟩ ⟨hk,hi⟩
  dsimp only at hk hi ⊢
  by_cases hkn:k<c.Queue.length
  · have hs:=allTo_succ (Q:=fun i=>frFlt (c.Queue.getD i default)=0) (k:=k)
    have h1:=frameCheck_fn _ (w10 _ (getD_mem hkn))
    unfold frsOk at hi
    cases ok
    · have hi:¬ (((cnA c∧cnNum c)∧AllTo (lnOk c) c.Lanes.length)∧AllTo (fun i=>frFlt (c.Queue.getD i default)=0) k):=fun h=>by have:=hi.2 h;cases this
      (repeat' first|(refine go_ ?_;((repeat' first|exact True.intro|refine Two.mk ?_ ?_);all_goals intros))|fail "")
      all_goals first
        | (refine ⟨(k+1,false),?_,?_,?_⟩;rotate_left 2;(exact lessA_);(exact Z66_);(exact Z41_))
        | skip
    · obtain ⟨hh,ha⟩:=hi.1 rfl
      (repeat' first|(refine s_call (h1) (h:=?_))|(refine p_call (h1) (h:=?_))|(refine go_ ?_;((repeat' first|exact True.intro|refine Two.mk ?_ ?_);all_goals intros))|fail "")
      all_goals first
        | (refine ⟨(k+1,true),?_,?_,?_⟩;rotate_left 2;(exact lessA_);(exact Z66_);(exact Z45_))
        | (refine ⟨(k+1,false),?_,?_,?_⟩;rotate_left 2;(exact lessA_);(exact Z66_);(exact Z22_))
        | skip
  have hkl:k=c.Queue.length:=by omega
  subst hkl
  clear w10 hkn hk
  (repeat' first|(refine go_ ?_;((repeat' first|exact True.intro|refine Two.mk ?_ ?_);all_goals intros))|fail "")
  generalize hB:(((cnA c∧cnNum c)∧AllTo (lnOk c) c.Lanes.length)∧frsOk c.Queue c.Queue.length)=B at hi
  refine r_for (fun x:Nat×Bool=>⟨[(2,.lit (.int .i64 0)),(3,.lit (.bool x.2)),(161,.ro (c.Space.Sent.map encParcel)),(162,.lit (.int .i64 c.Space.Sent.length)),(163,.lit (.int .i64 x.1))],[],0,Tryz.f58.ntmps⟩)
    (fun x=>x.1≤c.Space.Sent.length∧(x.2=true ↔ B∧AllTo (fun i=>frsOk (c.Space.Sent.getD i default).Frames (c.Space.Sent.getD i default).Frames.length) x.1)) (fun x=>c.Space.Sent.length - x.1) (0,ok) ⟨Nat.zero_le _,by rw [hi];exact ⟨fun h=>⟨h,allTo0⟩,fun h=>h.1⟩⟩ (by (try dsimp only);(exact lessA_)) ?_
  clear ok hi
  rintro ⟨k,ok⟩ ⟨hk,hi⟩
  dsimp only at hk hi ⊢
  by_cases hkn:k<c.Space.Sent.length
  · have hs:=allTo_succ (Q:=fun i=>frsOk (c.Space.Sent.getD i default).Frames (c.Space.Sent.getD i default).Frames.length) (k:=k)
    have hwp:=l3 _ (getD_mem hkn)
    clear l3
    obtain ⟨p1,p2,p3,p4,p5⟩:=hwp
    have hpl:(c.Space.Sent.getD k default).Frames.length≤1000000000000000:=by omega
    (repeat' first|(refine go_ ?_;((repeat' first|exact True.intro|refine Two.mk ?_ ?_);all_goals intros))|fail "")
    refine r_for (fun x:Nat×Bool=>⟨[(2,.lit (.int .i64 0)),(3,.lit (.bool x.2)),(161,.ro (c.Space.Sent.map encParcel)),(162,.lit (.int .i64 c.Space.Sent.length)),(163,.lit (.int .i64 k)),(168,.ro ((c.Space.Sent.getD k default).Frames.map encFrame)),(169,.lit (.int .i64 (c.Space.Sent.getD k default).Frames.length)),(170,.lit (.int .i64 x.1))],[],0,Tryz.f58.ntmps⟩)
      (fun x=>x.1≤(c.Space.Sent.getD k default).Frames.length∧(x.2=true ↔ (B∧AllTo (fun i=>frsOk (c.Space.Sent.getD i default).Frames (c.Space.Sent.getD i default).Frames.length) k)∧frsOk (c.Space.Sent.getD k default).Frames x.1)) (fun x=>(c.Space.Sent.getD k default).Frames.length - x.1) (0,ok) ⟨Nat.zero_le _,by rw [hi];exact ⟨fun h=>⟨h,allTo0⟩,fun h=>h.1⟩⟩ (by (try dsimp only);(exact lessA_)) ?_
    clear ok hi
    rintro ⟨j,ok⟩ ⟨hj,hi⟩
    dsimp only at hj hi ⊢
    by_cases hjn:j<(c.Space.Sent.getD k default).Frames.length
    · have hs:=allTo_succ (Q:=fun i=>frFlt ((c.Space.Sent.getD k default).Frames.getD i default)=0) (k:=j)
      have h1:=frameCheck_fn _ (p5 _ (getD_mem hjn))
      unfold frsOk at hi
      cases ok
      · have hi:¬ ((B∧AllTo (fun i=>frsOk (c.Space.Sent.getD i default).Frames (c.Space.Sent.getD i default).Frames.length) k)∧AllTo (fun i=>frFlt ((c.Space.Sent.getD k default).Frames.getD i default)=0) j):=fun h=>by have:=hi.2 h;cases this
        (repeat' first|(refine go_ ?_;((repeat' first|exact True.intro|refine Two.mk ?_ ?_);all_goals intros))|fail "")
        all_goals first
          | (refine ⟨(j+1,false),?_,?_,?_⟩;rotate_left 2;(exact lessA_);(exact Z66_);(focus (exact ⟨hjn,(fun h=>by cases h),fun h=>absurd ⟨h.1,(hs.1 h.2).1⟩ hi⟩)))
          | skip
      · obtain ⟨hh,ha⟩:=hi.1 rfl
        (repeat' first|(refine s_call (h1) (h:=?_))|(refine p_call (h1) (h:=?_))|(refine go_ ?_;((repeat' first|exact True.intro|refine Two.mk ?_ ?_);all_goals intros))|fail "")
        all_goals first
          | (refine ⟨(j+1,true),?_,?_,?_⟩;rotate_left 2;(exact lessA_);(exact Z66_);(focus (exact ⟨hjn,fun _=>⟨hh,hs.2 ⟨ha,by assumption⟩⟩,fun _=>rfl⟩)))
          | (refine ⟨(j+1,false),?_,?_,?_⟩;rotate_left 2;(exact lessA_);(exact Z66_);(focus (exact ⟨hjn,(fun h=>by cases h),fun h=>(by have h2:=(hs.1 h.2).2;(try dsimp only at h2);omega)⟩)))
          | skip
    have hjl:j=(c.Space.Sent.getD k default).Frames.length:=by omega
    subst hjl
    (repeat' first|(refine go_ ?_;((repeat' first|exact True.intro|refine Two.mk ?_ ?_);all_goals intros))|fail "")
    all_goals first
      | (refine ⟨(k+1,ok),?_,?_,?_⟩;rotate_left 2;(exact lessA_);(exact Z66_);(focus (exact ⟨hkn,by rw [hi,hs];exact ⟨fun h=>⟨h.1.1,h.1.2,h.2⟩,fun h=>⟨⟨h.1,h.2.1⟩,h.2.2⟩⟩⟩)))
      | skip
  have hkl:k=c.Space.Sent.length:=by omega
  subst hkl
  subst hB
  cases ok
  · rw [cnFlt_f (fun h=>by have:=hi.2 h;cases this)]
    (repeat' first|(refine go_ ?_;((repeat' first|exact True.intro|refine Two.mk ?_ ?_);all_goals intros))|fail "")
    all_goals exact ends_ (hr:=rfl)
  · rw [cnFlt_t (hi.1 rfl)]
    (repeat' first|(refine go_ ?_;((repeat' first|exact True.intro|refine Two.mk ?_ ?_);all_goals intros))|fail "")
    all_goals exact ends_ (hr:=rfl)
end Go.Proofs.YtendheafcbickaaGreat


set_option linter.unusedVariables false
set_option linter.unusedSimpArgs false
set_option linter.unusedVariables false
namespace Go.Proofs.YtendheafcbickaaGreat
set_option maxRecDepth 100000
attribute [local irreducible] Run RunL QStep GStep Fn Less PL
theorem rangesFaultRef_fn (l:List DRange) (hw:∀ y,y ∈ l→wfRange y) (hl:l.length * 16≤140737488355312):Fn Tryz.prog 253 [.ro (l.map encRange)] (.lit (.int .i64 (rFlt l))):=by
  refine fn_of_run (by kernel_rfl) Tryz.func253 rfl (by kernel_rfl) ?_
  (repeat' first|(refine go_ ?_;((repeat' first|exact True.intro|refine Two.mk ?_ ?_);all_goals intros))|fail "")
  refine r_for (fun k:Nat=>⟨[(0,.ro (l.map encRange)),(6,.ro (l.map encRange)),(7,.lit (.int .i64 l.length)),(8,.lit (.int .i64 k)),(3,.lit (.int .i64 (lastHi l k)))],[],0,Tryz.f253.ntmps⟩)
    (fun k=>k≤l.length∧(rSet (-2) l ↔ rSet (lastHi l k) (l.drop k)) ∧ -2≤lastHi l k∧lastHi l k≤4611686018427387903) (fun k=>l.length - k) 0 ⟨Nat.zero_le _,by simp [lastHi],by simp [lastHi],by simp [lastHi]⟩ less_to ?_
  rintro k ⟨hk,hi,hb1,hb2⟩
  by_cases hkn:k<l.length
  · have hd:=rSet_drop (a:=lastHi l k) hkn
    have hwk:=hw _ (getD_mem hkn)
    unfold wfRange I64 at hwk
    have hlast:lastHi l (k+1)=(l.getD k default).Hi:=by unfold lastHi;rw [if_neg (by omega),Nat.add_sub_cancel]
    (repeat' first|(refine s_dec (isRange_fn _) (ht:=?_) (hff:=?_) <;> intro _ <;> try (exfalso;omega))|(refine p_dec (isRange_fn _) (ht:=?_) (hff:=?_) <;> intro _ <;> try (exfalso;omega))|(refine go_ ?_;((repeat' first|exact True.intro|refine Two.mk ?_ ?_);all_goals intros))|fail "")
    all_goals first
      | (refine ends_ (hr:=?_);unfold rFlt;rw [if_neg (fun h=>?_)];have:=hd.1 (hi.1 h);unfold rGood at *;omega)
      | (refine ⟨k+1,?_,?_,?_⟩;rotate_left 2;(exact lessA_);(exact Z69_);(exact Z3_))
  · (repeat' first|(refine go_ ?_;((repeat' first|exact True.intro|refine Two.mk ?_ ?_);all_goals intros))|fail "")
    all_goals (refine ends_ (hr:=?_);unfold rFlt;rw [if_pos (hi.2 (by rw [List.drop_eq_nil_of_le (by omega)];trivial))])
end Go.Proofs.YtendheafcbickaaGreat
