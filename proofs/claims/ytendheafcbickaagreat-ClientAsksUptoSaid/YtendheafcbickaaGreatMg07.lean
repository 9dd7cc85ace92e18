/-
  SEVERAL TEXTS IN ONE: each with its own comment.
-/
import Derived.Test.YtendheafcbickaaGreatGo
import Derived.Test.YtendheafcbickaaGreatEnc
import Derived.Test.YtendheafcbickaaGreatProg
import Derived.Test.YtendheafcbickaaGreatZip

set_option linter.unusedVariables false
set_option linter.unusedSimpArgs false
set_option linter.unusedVariables false
namespace Go.Proofs.YtendheafcbickaaGreat
set_option maxRecDepth 100000
attribute [local irreducible] Run RunL QStep GStep Fn Less PL
theorem upTo_fn (a b:Int):Fn Tryz.prog 55 [.lit (.int .i64 a),.lit (.int .i64 b)] (.lit (.bool (decide (0≤a∧a≤b)))):=by
  refine fn_of_run (by kernel_rfl) Tryz.func55 rfl (by kernel_rfl) ?_
  (repeat' first|(refine go_ ?_;((repeat' first|exact True.intro|refine Two.mk ?_ ?_);all_goals intros))|fail "")
  all_goals refine ends_ (hr:=?_)
  all_goals first
    | rw [decide_eq_true (by omega)]
    | rw [decide_eq_false (by omega)]
end Go.Proofs.YtendheafcbickaaGreat


set_option linter.unusedVariables false
set_option linter.unusedSimpArgs false
set_option linter.unusedVariables false
namespace Go.Proofs.YtendheafcbickaaGreat
set_option maxRecDepth 100000
attribute [local irreducible] Run RunL QStep GStep Fn Less PL FnM
def flwOk (f:DFlow):Prop:=0≤f.Used∧f.Used≤f.Max∧f.Max≤4611686018427387903
instance (f:DFlow):Decidable (flwOk f):=inferInstanceAs (Decidable (_∧_∧_))
def flwFlt (f:DFlow):Int:=if flwOk f then 0 else 9
theorem flwFlt_t {f:DFlow} (h:flwOk f):flwFlt f=0:=if_pos h
theorem flwFlt_f {f:DFlow} (h:¬ flwOk f):flwFlt f=9:=if_neg h
set_option maxHeartbeats 1000000 in
theorem flwCheck_fn (f:DFlow):Fn Tryz.prog 119 [.agg (encFlow f)] (.lit (.int .i64 (flwFlt f))):=by
  refine fn_of_run (by kernel_rfl) Tryz.func119 rfl (by kernel_rfl) ?_
  (repeat' first|(refine go_ ?_;((repeat' first|exact True.intro|refine Two.mk ?_ ?_);all_goals intros))|fail "")
  all_goals refine ends_ (hr:=?_)
  all_goals first
    | rw [flwFlt_t (by unfold flwOk;omega)]
    | rw [flwFlt_f (by unfold flwOk;omega)]
set_option maxHeartbeats 1000000 in
theorem flwFault_fn (f:DFlow):Fn Tryz.prog 139 [.agg (encFlow f)] (.lit (.int .i64 (flwFlt f))):=by
  refine fn_of_run (by kernel_rfl) Tryz.func139 rfl (by kernel_rfl) ?_
  (repeat' first|(refine s_dec (upTo_fn _ _) (ht:=?_) (hff:=?_) <;> intro _ <;> try (exfalso;omega))|(refine p_dec (upTo_fn _ _) (ht:=?_) (hff:=?_) <;> intro _ <;> try (exfalso;omega))|(refine go_ ?_;((repeat' first|exact True.intro|refine Two.mk ?_ ?_);all_goals intros))|fail "")
  all_goals refine ends_ (hr:=?_)
  all_goals first
    | rw [flwFlt_t (by unfold flwOk;omega)]
    | rw [flwFlt_f (by unfold flwOk;omega)]
end Go.Proofs.YtendheafcbickaaGreat


set_option linter.unusedVariables false
set_option linter.unusedSimpArgs false
set_option linter.unusedVariables false
namespace Go.Proofs.YtendheafcbickaaGreat
theorem drop_cons {α:Type} [Inhabited α] {l:List α} {k:Nat} (h:k<l.length):l.drop k=l.getD k default :: l.drop (k+1):=by
  rw [List.drop_eq_getElem_cons h,List.getD_eq_getElem?_getD,List.getElem?_eq_getElem h];rfl
theorem getD_mem {α:Type} [Inhabited α] {l:List α} {k:Nat} (h:k<l.length):l.getD k default ∈ l:=by
  rw [List.getD_eq_getElem?_getD,List.getElem?_eq_getElem h];exact List.getElem_mem h
theorem take_snoc {α:Type} [Inhabited α] {l:List α} {k:Nat} (h:k<l.length):l.take (k+1)=l.take k++[l.getD k default]:=by
  rw [List.take_succ_eq_append_getElem h,List.getD_eq_getElem?_getD,List.getElem?_eq_getElem h];rfl
theorem take_same {α:Type} [Inhabited α] {l m:List α} {k:Nat} (h:k<l.length) (h2:k<m.length) (ht:l.take k=m.take k) (he:l.getD k default=m.getD k default):l.take (k+1)=m.take (k+1):=by
  rw [take_snoc h,take_snoc h2,ht,he]
theorem ne_getD {α:Type} [Inhabited α] {l m:List α} {k:Nat} (h:l.getD k default≠m.getD k default):l≠m:=fun e=>h (by rw [e])
theorem take_all {α:Type} {l m:List α} {k:Nat} (h:k=l.length) (h2:k=m.length) (ht:l.take k=m.take k):l=m:=by
  rw [List.take_of_length_le (by omega),List.take_of_length_le (by omega)] at ht;exact ht
def Along {α:Type} (l m:List α) (same:Prop) (k:Nat) (ok:Bool):Prop:=k≤l.length∧(ok=true→l.length=m.length∧l.take k=m.take k)∧(ok=false → ¬ same)
theorem mem_take_snoc {α:Type} [Inhabited α] {l:List α} {k:Nat} {p:α→Prop} (h:k<l.length) (ht:∀ x ∈ l.take k,p x) (hk:p (l.getD k default)):∀ x ∈ l.take (k+1),p x:=by
  intro x hx
  rw [take_snoc h,List.mem_append,List.mem_singleton] at hx
  rcases hx with hx|rfl
  · exact ht x hx
  · exact hk
def AllTo (Q:Nat→Prop) (k:Nat):Prop:=∀ i,i<k→Q i
theorem allTo0 {Q:Nat→Prop}:AllTo Q 0:=fun i h=>by omega
theorem allTo_succ {Q:Nat→Prop} {k:Nat}:AllTo Q (k+1) ↔ AllTo Q k∧Q k:=
  ⟨fun h=>⟨fun i hi=>h i (by omega),h k (by omega)⟩,fun h i hi=>by
    by_cases e:i=k
    · subst e;exact h.2
    · exact h.1 i (by omega)⟩
end Go.Proofs.YtendheafcbickaaGreat


set_option linter.unusedVariables false
set_option linter.unusedSimpArgs false
set_option linter.unusedVariables false
namespace Go.Proofs.YtendheafcbickaaGreat
set_option maxRecDepth 100000
attribute [local irreducible] Run RunL QStep GStep Fn Less PL
def paceOk (p:DPace):Prop:=200≤p.Window∧p.Window≤1099511627776∧0≤p.Thresh∧p.Thresh≤1099511627776∧0≤p.Flying∧p.Flying≤1099511627776 ∧ -1≤p.Since∧p.Since≤1099511627776
instance (p:DPace):Decidable (paceOk p):=inferInstanceAs (Decidable (_∧_))
def paceFlt (p:DPace):Int:=if paceOk p then 0 else 9
def inM (x:Int):Prop:=0≤x∧x≤1099511627776
instance (x:Int):Decidable (inM x):=inferInstanceAs (Decidable (_∧_))
def paceArg (p:DPace) (l:List Int):Int:=if paceOk p then (if ∀ x ∈ l,inM x then 0 else 6) else 9
theorem paceCheck_fn (p:DPace):Fn Tryz.prog 118 [.agg (encPace p)] (.lit (.int .i64 (paceFlt p))):=by
  refine fn_of_run (by kernel_rfl) Tryz.func118 rfl (by kernel_rfl) ?_
  (repeat' first|(refine go_ ?_;((repeat' first|exact True.intro|refine Two.mk ?_ ?_);all_goals intros))|fail "")
  all_goals (refine ends_ (hr:=?_);unfold paceFlt)
  all_goals first
    | rw [if_pos (by unfold paceOk;omega)]
    | rw [if_neg (by unfold paceOk;omega)]
theorem paceFaultRef_fn (p:DPace) (hw:wfPace p):Fn Tryz.prog 138 [.agg (encPace p)] (.lit (.int .i64 (paceFlt p))):=by
  unfold wfPace I64 at hw
  have hs:p.Since≠9223372036854775807∨(p.Since=9223372036854775807∧IntKind.i64.wrap (p.Since+1) = -9223372036854775808):=by
    by_cases h:p.Since=9223372036854775807
    · right;rw [h];exact ⟨rfl,rfl⟩
    · exact .inl h
  rcases hs with hs|hs
  all_goals
    refine fn_of_run (by kernel_rfl) Tryz.func138 rfl (by kernel_rfl) ?_
    (repeat' first|(refine s_dec (upTo_fn _ _) (ht:=?_) (hff:=?_) <;> intro _ <;> try (exfalso;omega))|(refine p_dec (upTo_fn _ _) (ht:=?_) (hff:=?_) <;> intro _ <;> try (exfalso;omega))|(refine go_ ?_;((repeat' first|exact True.intro|refine Two.mk ?_ ?_);all_goals intros))|fail "")
    all_goals (refine ends_ (hr:=?_);unfold paceFlt)
    all_goals first
      | rw [if_pos (by unfold paceOk;omega)]
      | rw [if_neg (by unfold paceOk;omega)]
theorem paceFault_fn (p:DPace) (l:List Int) (hl:l.length≤100):Fn Tryz.prog 277 [.agg (encPace p),.ro (l.map encI)] (.lit (.int .i64 (paceArg p l))):=by
  unfold paceArg
  by_cases ho:paceOk p
  · have h1:=paceCheck_fn p
    rw [show paceFlt p=0 from if_pos ho] at h1
    rw [if_pos ho]
    refine fn_of_run (by kernel_rfl) Tryz.func277 rfl (by kernel_rfl) ?_
    (repeat' first|(refine s_call (h1) (h:=?_))|(refine p_call (h1) (h:=?_))|(refine go_ ?_;((repeat' first|exact True.intro|refine Two.mk ?_ ?_);all_goals intros))|fail "")
    refine r_for (fun k:Nat=>⟨[(1,.ro (l.map encI)),(13,.ro (l.map encI)),(14,.lit (.int .i64 l.length)),(15,.lit (.int .i64 k))],[],0,Tryz.f277.ntmps⟩)
      (fun k=>k≤l.length ∧ ∀ x ∈ l.take k,inM x) (fun k=>l.length - k) 0 ⟨Nat.zero_le _,by simp⟩ less_to ?_
    rintro k ⟨hk,ht⟩
    by_cases hkn:k<l.length
    · (repeat' first|(refine go_ ?_;((repeat' first|exact True.intro|refine Two.mk ?_ ?_);all_goals intros))|fail "")
      all_goals first
        | (refine ⟨k+1,?_,?_,?_⟩;rotate_left 2;(exact lessA_);(exact Z69_);(focus (exact ⟨hkn,mem_take_snoc hkn ht (by unfold inM;omega)⟩)))
        | (refine ends_ (hr:=?_);rw [if_neg (fun h=>?_)];have:=h _ (getD_mem hkn);unfold inM at this;omega)
    · (repeat' first|(refine go_ ?_;((repeat' first|exact True.intro|refine Two.mk ?_ ?_);all_goals intros))|fail "")
      all_goals (refine ends_ (hr:=?_);rw [if_pos (by rw [List.take_of_length_le (by omega)] at ht;exact ht)])
  · have h1:=paceCheck_fn p
    rw [show paceFlt p=9 from if_neg ho] at h1
    rw [if_neg ho]
    refine fn_of_run (by kernel_rfl) Tryz.func277 rfl (by kernel_rfl) ?_
    (repeat' first|(refine s_call (h1) (h:=?_))|(refine p_call (h1) (h:=?_))|(refine go_ ?_;((repeat' first|exact True.intro|refine Two.mk ?_ ?_);all_goals intros))|fail "")
    all_goals exact ends_ (hr:=rfl)
theorem paceFaultArgRef_fn (p:DPace) (hw:wfPace p) (l:List Int) (hl:l.length≤100):Fn Tryz.prog 282 [.agg (encPace p),.ro (l.map encI)] (.lit (.int .i64 (paceArg p l))):=by
  have h1:=paceFaultRef_fn p hw
  unfold paceArg
  by_cases ho:paceOk p
  · rw [show paceFlt p=0 from if_pos ho] at h1
    rw [if_pos ho]
    refine fn_of_run (by kernel_rfl) Tryz.func282 rfl (by kernel_rfl) ?_
    (repeat' first|(refine s_call (h1) (h:=?_))|(refine p_call (h1) (h:=?_))|(refine go_ ?_;((repeat' first|exact True.intro|refine Two.mk ?_ ?_);all_goals intros))|fail "")
    refine r_for (fun x:Nat×Int=>⟨[(1,.ro (l.map encI)),(10,.ro (l.map encI)),(11,.lit (.int .i64 l.length)),(12,.lit (.int .i64 x.1)),(5,.lit (.int .i64 x.2))],[],0,Tryz.f282.ntmps⟩)
      (fun x=>x.1≤l.length∧(x.2=0∧(∀ y ∈ l.take x.1,inM y)∨x.2=6 ∧ ¬ ∀ y ∈ l,inM y)) (fun x=>l.length - x.1) (0,0) ⟨Nat.zero_le _,.inl ⟨rfl,by simp⟩⟩ less_to ?_
    rintro ⟨k,e⟩ ⟨hk,ht⟩
    dsimp only at hk ht ⊢
    by_cases hkn:k<l.length
    · rcases ht with ⟨rfl,ht⟩ | ⟨rfl,ht⟩
      · (repeat' first|(refine s_dec (upTo_fn _ _) (ht:=?_) (hff:=?_) <;> intro _ <;> try (exfalso;omega))|(refine p_dec (upTo_fn _ _) (ht:=?_) (hff:=?_) <;> intro _ <;> try (exfalso;omega))|(refine go_ ?_;((repeat' first|exact True.intro|refine Two.mk ?_ ?_);all_goals intros))|fail "")
        all_goals first
          | (refine ⟨(k+1,0),?_,?_,?_⟩;rotate_left 2;(exact lessA_);(exact Z66_);(focus (exact ⟨hkn,.inl ⟨rfl,mem_take_snoc hkn ht (by unfold inM;omega)⟩⟩)))
          | (refine ⟨(k+1,6),?_,?_,?_⟩;rotate_left 2;(exact lessA_);(exact Z66_);(focus (refine ⟨hkn,.inr ⟨rfl,fun h=>?_⟩⟩;have:=h _ (getD_mem hkn);unfold inM at this;omega)))
      · (repeat' first|(refine s_dec (upTo_fn _ _) (ht:=?_) (hff:=?_) <;> intro _ <;> try (exfalso;omega))|(refine p_dec (upTo_fn _ _) (ht:=?_) (hff:=?_) <;> intro _ <;> try (exfalso;omega))|(refine go_ ?_;((repeat' first|exact True.intro|refine Two.mk ?_ ?_);all_goals intros))|fail "")
        all_goals (refine ⟨(k+1,6),?_,?_,?_⟩;rotate_left 2;(exact lessA_);(exact Z66_);(focus (exact ⟨hkn,.inr ⟨rfl,ht⟩⟩)))
    · rcases ht with ⟨rfl,ht⟩ | ⟨rfl,ht⟩
      · (repeat' first|(refine go_ ?_;((repeat' first|exact True.intro|refine Two.mk ?_ ?_);all_goals intros))|fail "")
        all_goals (refine ends_ (hr:=?_);rw [if_pos (by rw [List.take_of_length_le (by omega)] at ht;exact ht)])
      · (repeat' first|(refine go_ ?_;((repeat' first|exact True.intro|refine Two.mk ?_ ?_);all_goals intros))|fail "")
        all_goals (refine ends_ (hr:=?_);rw [if_neg ht])
  · rw [show paceFlt p=9 from if_neg ho] at h1
    rw [if_neg ho]
    refine fn_of_run (by kernel_rfl) Tryz.func282 rfl (by kernel_rfl) ?_
    (repeat' first|(refine s_call (h1) (h:=?_))|(refine p_call (h1) (h:=?_))|(refine go_ ?_;((repeat' first|exact True.intro|refine Two.mk ?_ ?_);all_goals intros))|fail "")
    refine r_for (fun k:Nat=>⟨[(1,.ro (l.map encI)),(10,.ro (l.map encI)),(11,.lit (.int .i64 l.length)),(12,.lit (.int .i64 k)),(5,.lit (.int .i64 9))],[],0,Tryz.f282.ntmps⟩)
      (fun k=>k≤l.length) (fun k=>l.length - k) 0 (Nat.zero_le _) less_to ?_
    intro k hk
    by_cases hkn:k<l.length
    · (repeat' first|(refine s_dec (upTo_fn _ _) (ht:=?_) (hff:=?_) <;> intro _ <;> try (exfalso;omega))|(refine p_dec (upTo_fn _ _) (ht:=?_) (hff:=?_) <;> intro _ <;> try (exfalso;omega))|(refine go_ ?_;((repeat' first|exact True.intro|refine Two.mk ?_ ?_);all_goals intros))|fail "")
      all_goals (refine ⟨k+1,?_,?_,?_⟩;rotate_left 2;(exact lessA_);(exact Z69_);(exact Z67_))
    · (repeat' first|(refine go_ ?_;((repeat' first|exact True.intro|refine Two.mk ?_ ?_);all_goals intros))|fail "")
      all_goals exact ends_ (hr:=rfl)
def paceLostV (p:DPace) (n s t:Int):DPace×Int:=
  if paceArg p [n,s,t]≠0 then (⟨0,0,0,0⟩,paceArg p [n,s,t])
  else if p.Flying<n then (⟨0,0,0,0⟩,13)
  else if s≤p.Since then (⟨p.Window,p.Thresh,p.Flying - n,p.Since⟩,0)
  else (⟨max (p.Window / 2) 200,max (p.Window / 2) 200,p.Flying - n,max t s⟩,0)
theorem paceArg_ok {p:DPace} {l:List Int} (h:paceArg p l=0):paceOk p ∧ ∀ x ∈ l,inM x:=by
  unfold paceArg at h
  split at h
  · rename_i h1
    split at h
    · rename_i h2;exact ⟨h1,h2⟩
    · omega
  · omega
theorem paceLost_fn (p:DPace) (n s t:Int):Fn Tryz.prog 231 [.agg (encPace p),.lit (.int .i64 n),.lit (.int .i64 s),.lit (.int .i64 t)] (.tup [.agg (encPace (paceLostV p n s t).1),.lit (.int .i64 (paceLostV p n s t).2)]):=by
  have h1:=paceFault_fn p [n,s,t] (by simp)
  unfold paceLostV
  by_cases h0:paceArg p [n,s,t]=0
  · obtain ⟨ho,hl⟩:=paceArg_ok h0
    rw [h0] at h1 ⊢
    rw [if_neg (by omega)]
    unfold paceOk at ho
    have ha:=hl n (by simp)
    have hb:=hl s (by simp)
    have hc:=hl t (by simp)
    unfold inM at ha hb hc
    refine fn_of_run (by kernel_rfl) Tryz.func231 rfl (by kernel_rfl) ?_
    (repeat' first|(refine s_call (h1) (h:=?_))|(refine p_call (h1) (h:=?_))|(refine go_ ?_;((repeat' first|exact True.intro|refine Two.mk ?_ ?_);all_goals intros))|fail "")
    all_goals (refine ends_ (hr:=?_))
    all_goals first
      | (rw [if_pos (by omega)];rfl)
      | (rw [if_neg (by omega),if_pos (by omega)];rfl)
      | (rw [if_neg (by omega),if_neg (by omega)];rfl)
  · rw [if_pos h0]
    generalize paceArg p [n,s,t]=e at *
    refine fn_of_run (by kernel_rfl) Tryz.func231 rfl (by kernel_rfl) ?_
    (repeat' first|(refine s_call (h1) (h:=?_))|(refine p_call (h1) (h:=?_))|(refine go_ ?_;((repeat' first|exact True.intro|refine Two.mk ?_ ?_);all_goals intros))|fail "")
    all_goals (refine ends_ (hr:=?_);rfl)
theorem paceLostRef_fn (p:DPace) (hw:wfPace p) (n s t:Int):Fn Tryz.prog 234 [.agg (encPace p),.lit (.int .i64 n),.lit (.int .i64 s),.lit (.int .i64 t)] (.tup [.agg (encPace (paceLostV p n s t).1),.lit (.int .i64 (paceLostV p n s t).2)]):=by
  have h1:=paceFaultArgRef_fn p hw [n,s,t] (by simp)
  unfold paceLostV
  by_cases h0:paceArg p [n,s,t]=0
  · obtain ⟨ho,hl⟩:=paceArg_ok h0
    rw [h0] at h1 ⊢
    rw [if_neg (by omega)]
    unfold paceOk at ho
    have ha:=hl n (by simp)
    have hb:=hl s (by simp)
    have hc:=hl t (by simp)
    unfold inM at ha hb hc
    refine fn_of_run (by kernel_rfl) Tryz.func234 rfl (by kernel_rfl) ?_
    (repeat' first|(refine s_call (h1) (h:=?_))|(refine p_call (h1) (h:=?_))|(refine go_ ?_;((repeat' first|exact True.intro|refine Two.mk ?_ ?_);all_goals intros))|fail "")
    all_goals (refine ends_ (hr:=?_))
    all_goals first
      | (rw [if_pos (by omega)];rfl)
      | (rw [if_neg (by omega),if_pos (by omega)];rfl)
      | (rw [if_neg (by omega),if_neg (by omega),Int.max_comm _ 200,Int.max_comm t s];rfl)
  · rw [if_pos h0]
    generalize paceArg p [n,s,t]=e at *
    refine fn_of_run (by kernel_rfl) Tryz.func234 rfl (by kernel_rfl) ?_
    (repeat' first|(refine s_call (h1) (h:=?_))|(refine p_call (h1) (h:=?_))|(refine go_ ?_;((repeat' first|exact True.intro|refine Two.mk ?_ ?_);all_goals intros))|fail "")
    all_goals (refine ends_ (hr:=?_);rfl)
end Go.Proofs.YtendheafcbickaaGreat


set_option linter.unusedVariables false
set_option linter.unusedSimpArgs false
set_option linter.unusedVariables false
namespace Go.Proofs.YtendheafcbickaaGreat
set_option maxRecDepth 100000
attribute [local irreducible] Run RunL QStep GStep Fn Less PL
def rGood (r:DRange):Prop:=0≤r.Lo∧r.Lo≤r.Hi∧r.Hi≤4611686018427387903
instance (r:DRange):Decidable (rGood r):=inferInstanceAs (Decidable (_∧_))
def rSet:Int→List DRange→Prop
  | _,[]=>True
  | a,r :: l=>rGood r∧a+2≤r.Lo∧rSet r.Hi l
instance rSetDec:∀ (a:Int) (l:List DRange),Decidable (rSet a l)
  | _,[]=>inferInstanceAs (Decidable True)
  | a,r :: l=>by
    have:=rSetDec r.Hi l
    exact inferInstanceAs (Decidable (rGood r∧a+2≤r.Lo∧rSet r.Hi l))
def rFlt (l:List DRange):Int:=if rSet (-2) l then 0 else 3
def rgFlt (l:List DRange) (r:DRange):Int:=if rFlt l≠0 then rFlt l else if rGood r then 0 else 6
theorem good_fn (r:DRange):Fn Tryz.prog 287 [.agg (encRange r)] (.lit (.bool (decide (rGood r)))):=by
  refine fn_of_run (by kernel_rfl) Tryz.func287 rfl (by kernel_rfl) ?_
  (repeat' first|(refine go_ ?_;((repeat' first|exact True.intro|refine Two.mk ?_ ?_);all_goals intros))|fail "")
  all_goals (refine ends_ (hr:=?_))
  all_goals first
    | rw [decide_eq_true (by unfold rGood;omega)]
    | rw [decide_eq_false (by unfold rGood;omega)]
theorem isRange_fn (r:DRange):Fn Tryz.prog 144 [.agg (encRange r)] (.lit (.bool (decide (rGood r)))):=by
  refine fn_of_run (by kernel_rfl) Tryz.func144 rfl (by kernel_rfl) ?_
  (repeat' first|(refine s_dec (upTo_fn _ _) (ht:=?_) (hff:=?_) <;> intro _ <;> try (exfalso;omega))|(refine p_dec (upTo_fn _ _) (ht:=?_) (hff:=?_) <;> intro _ <;> try (exfalso;omega))|(refine go_ ?_;((repeat' first|exact True.intro|refine Two.mk ?_ ?_);all_goals intros))|fail "")
  all_goals (refine ends_ (hr:=?_))
  all_goals first
    | rw [decide_eq_true (by unfold rGood;omega)]
    | rw [decide_eq_false (by unfold rGood;omega)]
def lastHi (l:List DRange) (k:Nat):Int:=if k=0 then -2 else (l.getD (k - 1) default).Hi
theorem rSet_drop {l:List DRange} {k:Nat} {a:Int} (h:k<l.length):rSet a (l.drop k) ↔ rGood (l.getD k default)∧a+2≤(l.getD k default).Lo∧rSet (lastHi l (k+1)) (l.drop (k+1)):=by
  rw [drop_cons h];unfold lastHi;rw [if_neg (by omega),Nat.add_sub_cancel];rfl
theorem rangesCheck_fn (l:List DRange) (hw:∀ y,y ∈ l→wfRange y) (hl:l.length * 16≤140737488355312):Fn Tryz.prog 237 [.ro (l.map encRange)] (.lit (.int .i64 (rFlt l))):=by
  refine fn_of_run (by kernel_rfl) Tryz.func237 rfl (by kernel_rfl) ?_
  (repeat' first|(refine go_ ?_;((repeat' first|exact True.intro|refine Two.mk ?_ ?_);all_goals intros))|fail "")
  refine r_for (fun k:Nat=>⟨[(0,.ro (l.map encRange)),(5,.ro (l.map encRange)),(6,.lit (.int .i64 l.length)),(7,.lit (.int .i64 k))],[],0,Tryz.f237.ntmps⟩)
    (fun k=>k≤l.length∧(rSet (-2) l ↔ rSet (lastHi l k) (l.drop k)) ∧ -2≤lastHi l k∧lastHi l k≤4611686018427387903) (fun k=>l.length - k) 0 ⟨Nat.zero_le _,by simp [lastHi],by simp [lastHi],by simp [lastHi]⟩ less_to ?_
  rintro k ⟨hk,hi,hb1,hb2⟩
  by_cases hkn:k<l.length
  · have hd:=rSet_drop (a:=lastHi l k) hkn
    have hwk:=hw _ (getD_mem hkn)
    unfold wfRange I64 at hwk
    have hlast:lastHi l (k+1)=(l.getD k default).Hi:=by unfold lastHi;rw [if_neg (by omega),Nat.add_sub_cancel]
    by_cases hk0:k=0
    · have hz:lastHi l k = -2:=by unfold lastHi;rw [if_pos hk0]
      (repeat' first|(refine s_dec (good_fn _) (ht:=?_) (hff:=?_) <;> intro _ <;> try (exfalso;omega))|(refine p_dec (good_fn _) (ht:=?_) (hff:=?_) <;> intro _ <;> try (exfalso;omega))|(refine go_ ?_;((repeat' first|exact True.intro|refine Two.mk ?_ ?_);all_goals intros))|fail "")
      all_goals first
        | (refine ends_ (hr:=?_);unfold rFlt;rw [if_neg (fun h=>?_)];have:=hd.1 (hi.1 h);unfold rGood at *;omega)
        | (refine ⟨k+1,?_,?_,?_⟩;rotate_left 2;(exact lessA_);(exact Z69_);(exact Z3_))
    · have hz:lastHi l k=(l.getD (k - 1) default).Hi:=by unfold lastHi;rw [if_neg hk0]
      rw [hz] at hd hb1 hb2
      (repeat' first|(refine s_dec (good_fn _) (ht:=?_) (hff:=?_) <;> intro _ <;> try (exfalso;omega))|(refine p_dec (good_fn _) (ht:=?_) (hff:=?_) <;> intro _ <;> try (exfalso;omega))|(refine go_ ?_;((repeat' first|exact True.intro|refine Two.mk ?_ ?_);all_goals intros))|fail "")
      all_goals first
        | (refine ends_ (hr:=?_);unfold rFlt;rw [if_neg (fun h=>?_)];rw [hz] at hi;have:=hd.1 (hi.1 h);unfold rGood at *;omega)
        | (refine ⟨k+1,?_,?_,?_⟩;rotate_left 2;(exact lessA_);(exact Z69_);(focus (have hg:rGood (l.getD k default):=(by assumption);unfold rGood at hg;rw [hz] at hi;refine ⟨hkn,⟨fun h=>(hd.1 (hi.1 h)).2.2,fun h=>hi.2 (hd.2 ⟨by assumption,?_,h⟩)⟩,?_,?_⟩ <;> omega)))
  · (repeat' first|(refine go_ ?_;((repeat' first|exact True.intro|refine Two.mk ?_ ?_);all_goals intros))|fail "")
    all_goals (refine ends_ (hr:=?_);unfold rFlt;rw [if_pos (hi.2 (by rw [List.drop_eq_nil_of_le (by omega)];trivial))])
set_option maxHeartbeats 2000000 in
theorem sameRanges_fn (l m:List DRange) (hl:l.length * 16≤140737488355328) (hm:m.length * 16≤140737488355328):Fn Tryz.prog 158 [.ro (l.map encRange),.ro (m.map encRange)] (.lit (.bool (yes (l=m)))):=by
  by_cases hlen:l.length=m.length
  · refine fn_of_run (by kernel_rfl) Tryz.func158 rfl (by kernel_rfl) ?_
    (repeat' first|(refine go_ ?_;((repeat' first|exact True.intro|refine Two.mk ?_ ?_);all_goals intros))|fail "")
    refine r_for (fun x:Nat×Bool=>⟨[(0,.ro (l.map encRange)),(1,.ro (m.map encRange)),(5,.lit (.bool x.2)),(6,.lit (.int .i64 x.1))],[],0,Tryz.f158.ntmps⟩)
      (fun x=>Along l m (l=m) x.1 x.2) (fun x=>l.length - x.1) (0,true) ⟨Nat.zero_le _,fun _=>⟨hlen,rfl⟩,fun h=>by cases h⟩ less_to ?_
    rintro ⟨k,ok⟩ ⟨hk,hs,hn⟩
    dsimp only at hk hs hn ⊢
    cases ok
    · (repeat' first|(refine go_ ?_;((repeat' first|exact True.intro|refine Two.mk ?_ ?_);all_goals intros))|fail "")
      all_goals (refine ends_ (hr:=?_);exact noV (hn rfl))
    · obtain ⟨_,ht⟩:=hs rfl
      by_cases hkn:k<l.length
      · skip
        (repeat' first|(refine go_ ?_;((repeat' first|exact True.intro|refine Two.mk ?_ ?_);all_goals intros))|fail "")
        all_goals first
          | (refine ⟨(k+1,true),?_,?_,?_⟩;rotate_left 2;(exact lessA_);(exact Z66_);(focus (exact ⟨hkn,fun _=>⟨hlen,take_same hkn (by omega) ht (by have h:=‹_∧_›;exact ext_Range h.1 h.2.1)⟩,fun h=>by cases h⟩)))
          | (refine ⟨(k+1,false),?_,?_,?_⟩;rotate_left 2;(exact lessA_);(exact Z66_);(focus (exact ⟨hkn,fun h=>(by cases h),fun _=>ne_getD (k:=k) (by intro e;simp_all)⟩)))
      · (repeat' first|(refine go_ ?_;((repeat' first|exact True.intro|refine Two.mk ?_ ?_);all_goals intros))|fail "")
        all_goals (refine ends_ (hr:=?_);exact yesV (take_all (by omega) (by omega) ht))
  · refine fn_of_run (by kernel_rfl) Tryz.func158 rfl (by kernel_rfl) ?_
    (repeat' first|(refine go_ ?_;((repeat' first|exact True.intro|refine Two.mk ?_ ?_);all_goals intros))|fail "")
    refine r_for (fun _:Unit=>⟨[(5,.lit (.bool false))],[],0,Tryz.f158.ntmps⟩) (fun _=>True) (fun _=>0) () trivial less_to ?_
    intro _ _
    (repeat' first|(refine go_ ?_;((repeat' first|exact True.intro|refine Two.mk ?_ ?_);all_goals intros))|fail "")
    all_goals (refine ends_ (hr:=?_);exact noV (fun e=>hlen (by rw [e])))
end Go.Proofs.YtendheafcbickaaGreat
