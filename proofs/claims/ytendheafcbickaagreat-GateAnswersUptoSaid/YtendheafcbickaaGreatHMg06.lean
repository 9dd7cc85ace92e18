/-
  SEVERAL TEXTS IN ONE: each with its own comment.
-/
import Derived.Test.YtendheafcbickaaGreatHEnc
import Derived.Test.YtendheafcbickaaGreatHGo
import Derived.Test.YtendheafcbickaaGreatProg
import Derived.Test.YtendheafcbickaaGreatHZip

set_option linter.unusedVariables false
set_option linter.unusedSimpArgs false
set_option linter.unusedVariables false
namespace Go.Proofs.YtendheafcbickaaGreat
theorem drop_cons {α:Type} [Inhabited α] {l:List α} {k:Nat} (h:k<l.length):l.drop k=l.getD k default :: l.drop (k+1):=by
  rw [List.drop_eq_getElem_cons h,List.getD_eq_getElem?_getD,List.getElem?_eq_getElem h];rfl
theorem getD_mem {α:Type} [Inhabited α] {l:List α} {k:Nat} (h:k<l.length):l.getD k default ∈ l:=by
  rw [List.getD_eq_getElem?_getD,List.getElem?_eq_getElem h];exact List.getElem_mem h
theorem take_snoc {α:Type} [Inhabited α] {l:List α} {k:Nat} (h:k<l.length):l.take (k+1)=l.take k++[l.getD k default]:=by
  rw [List.take_succ_eq_append_getElem h,List.getD_eq_getElem?_getD,List.getElem?_eq_getElem h];rfl
theorem take_same {α:Type} [Inhabited α] {l m:List α} {k:Nat} (h:k<l.length) (h2:k<m.length) (ht:l.take k=m.take k) (he:l.getD k default=m.getD k default):l.take (k+1)=m.take (k+1):=by
  rw [take_snoc h,take_snoc h2,ht,he]
theorem ne_getD {α:Type} [Inhabited α] {l m:List α} {k:Nat} (h:l.getD k default≠m.getD k default):l≠m:=fun e=>h (by rw [e])
theorem take_all {α:Type} {l m:List α} {k:Nat} (h:k=l.length) (h2:k=m.length) (ht:l.take k=m.take k):l=m:=by
  rw [List.take_of_length_le (by omega),List.take_of_length_le (by omega)] at ht;exact ht
def Along {α:Type} (l m:List α) (same:Prop) (k:Nat) (ok:Bool):Prop:=k≤l.length∧(ok=true→l.length=m.length∧l.take k=m.take k)∧(ok=false → ¬ same)
theorem mem_take_snoc {α:Type} [Inhabited α] {l:List α} {k:Nat} {p:α→Prop} (h:k<l.length) (ht:∀ x ∈ l.take k,p x) (hk:p (l.getD k default)):∀ x ∈ l.take (k+1),p x:=by
  intro x hx
  rw [take_snoc h,List.mem_append,List.mem_singleton] at hx
  rcases hx with hx|rfl
  · exact ht x hx
  · exact hk
def AllTo (Q:Nat→Prop) (k:Nat):Prop:=∀ i,i<k→Q i
theorem allTo0 {Q:Nat→Prop}:AllTo Q 0:=fun i h=>by omega
theorem allTo_succ {Q:Nat→Prop} {k:Nat}:AllTo Q (k+1) ↔ AllTo Q k∧Q k:=
  ⟨fun h=>⟨fun i hi=>h i (by omega),h k (by omega)⟩,fun h i hi=>by
    by_cases e:i=k
    · subst e;exact h.2
    · exact h.1 i (by omega)⟩
end Go.Proofs.YtendheafcbickaaGreat


set_option linter.unusedVariables false
set_option linter.unusedSimpArgs false
set_option linter.unusedVariables false
namespace Go.Proofs.YtendheafcbickaaGreat
set_option maxRecDepth 100000
attribute [local irreducible] Run RunL QStep GStep Fn Less PL
theorem upTo_fn (a b:Int):Fn Tryz.prog 55 [.lit (.int .i64 a),.lit (.int .i64 b)] (.lit (.bool (decide (0≤a∧a≤b)))):=by
  refine fn_of_run (by kernel_rfl) Tryz.func55 rfl (by kernel_rfl) ?_
  (repeat' first|(refine go_ ?_;((repeat' first|exact True.intro|refine Two.mk ?_ ?_);all_goals intros))|fail "")
  all_goals refine ends_ (hr:=?_)
  all_goals first
    | rw [decide_eq_true (by omega)]
    | rw [decide_eq_false (by omega)]
end Go.Proofs.YtendheafcbickaaGreat


set_option linter.unusedVariables false
set_option linter.unusedSimpArgs false
set_option linter.unusedVariables false
namespace Go.Proofs.YtendheafcbickaaGreat
set_option maxRecDepth 100000
attribute [local irreducible] Run RunL QStep GStep Fn Less PL
def tOk (t:DTally):Prop:=0≤t.Got∧t.Got≤1099511627776∧0≤t.Sent∧t.Sent≤1099511627776∧(t.Known=true∨t.Sent≤3 * t.Got)
instance (t:DTally):Decidable (tOk t):=inferInstanceAs (Decidable (_∧_))
def tFlt (t:DTally):Int:=if tOk t then 0 else 9
def tArg (t:DTally) (n:Int):Int:=if tOk t then (if 0≤n∧n≤400 then 0 else 6) else 9
def tZero:DTally:=⟨false,0,0⟩
def tGot (t:DTally) (n:Int):DTally×Int:=if tArg t n≠0 then (tZero,tArg t n) else if 1099511627776<t.Got+n then (tZero,8) else (⟨t.Known,t.Got+n,t.Sent⟩,0)
def tSend (t:DTally) (n:Int):DTally×Int:=if tArg t n≠0 then (tZero,tArg t n) else if 1099511627776<t.Sent+n then (tZero,8) else if t.Known=false∧3 * t.Got<t.Sent+n then (tZero,15) else (⟨t.Known,t.Got,t.Sent+n⟩,0)
def tKnow (t:DTally):DTally×Int:=if tOk t then (⟨true,t.Got,t.Sent⟩,0) else (tZero,9)
theorem tallyCheck_fn (t:DTally) (hw:wfTally t):Fn Tryz.prog 98 [.agg (encTally t)] (.lit (.int .i64 (tFlt t))):=by
  unfold wfTally I64 at hw
  unfold encTally
  cases hb:t.Known
  all_goals
    refine fn_of_run (by kernel_rfl) Tryz.func98 rfl (by kernel_rfl) ?_
    (repeat' first|(refine go_ ?_;((repeat' first|exact True.intro|refine Two.mk ?_ ?_);all_goals intros))|fail "")
    all_goals (refine ends_ (hr:=?_);unfold tFlt)
    all_goals first
      | rw [if_pos (by unfold tOk;rw [hb];first|omega|(simp;done)|(simp;omega))]
      | rw [if_neg (by unfold tOk;rw [hb];first|omega|(simp;done)|(simp;omega))]
theorem tallyFaultRef_fn (t:DTally) (hw:wfTally t):Fn Tryz.prog 104 [.agg (encTally t)] (.lit (.int .i64 (tFlt t))):=by
  unfold wfTally I64 at hw
  unfold encTally
  cases hb:t.Known
  all_goals
    refine fn_of_run (by kernel_rfl) Tryz.func104 rfl (by kernel_rfl) ?_
    (repeat' first|(refine s_dec (upTo_fn _ _) (ht:=?_) (hff:=?_) <;> intro _ <;> try (exfalso;omega))|(refine p_dec (upTo_fn _ _) (ht:=?_) (hff:=?_) <;> intro _ <;> try (exfalso;omega))|(refine go_ ?_;((repeat' first|exact True.intro|refine Two.mk ?_ ?_);all_goals intros))|fail "")
    all_goals (refine ends_ (hr:=?_);unfold tFlt)
    all_goals first
      | rw [if_pos (by unfold tOk;rw [hb];first|omega|(simp;done)|(simp;omega))]
      | rw [if_neg (by unfold tOk;rw [hb];first|omega|(simp;done)|(simp;omega))]
theorem tallyFault_fn (t:DTally) (n:Int) (hw:wfTally t):Fn Tryz.prog 178 [.agg (encTally t),.lit (.int .i64 n)] (.lit (.int .i64 (tArg t n))):=by
  have h1:=tallyCheck_fn t hw
  unfold tFlt at h1
  unfold tArg
  by_cases ho:tOk t
  · rw [if_pos ho] at h1 ⊢
    refine fn_of_run (by kernel_rfl) Tryz.func178 rfl (by kernel_rfl) ?_
    (repeat' first|(refine s_call (h1) (h:=?_))|(refine p_call (h1) (h:=?_))|(refine go_ ?_;((repeat' first|exact True.intro|refine Two.mk ?_ ?_);all_goals intros))|fail "")
    all_goals (refine ends_ (hr:=?_))
    all_goals first
      | rw [if_pos (by omega)]
      | rw [if_neg (by omega)]
  · rw [if_neg ho] at h1 ⊢
    refine fn_of_run (by kernel_rfl) Tryz.func178 rfl (by kernel_rfl) ?_
    (repeat' first|(refine s_call (h1) (h:=?_))|(refine p_call (h1) (h:=?_))|(refine go_ ?_;((repeat' first|exact True.intro|refine Two.mk ?_ ?_);all_goals intros))|fail "")
    all_goals exact ends_ (hr:=rfl)
theorem tArg_cases (t:DTally) (n:Int):(tArg t n=0∧tOk t∧0≤n∧n≤400)∨tArg t n=6∨tArg t n=9:=by
  unfold tArg
  split
  · split
    · exact .inl ⟨rfl,by assumption,by omega⟩
    · exact .inr (.inl rfl)
  · exact .inr (.inr rfl)
theorem tallySend_fn (t:DTally) (n:Int) (hw:wfTally t):Fn Tryz.prog 217 [.agg (encTally t),.lit (.int .i64 n)] (.tup [.agg (encTally (tSend t n).1),.lit (.int .i64 (tSend t n).2)]):=by
  have h1:=tallyFault_fn t n hw
  unfold tSend
  rcases tArg_cases t n with ⟨h0,ho,hn⟩|h0|h0
  · rw [h0] at h1 ⊢
    unfold tOk at ho
    rw [if_neg (by omega)]
    unfold encTally at h1 ⊢
    cases hb:t.Known
    all_goals
      rw [hb] at h1
      refine fn_of_run (by kernel_rfl) Tryz.func217 rfl (by kernel_rfl) ?_
      (repeat' first|(refine s_call (h1) (h:=?_))|(refine p_call (h1) (h:=?_))|(refine go_ ?_;((repeat' first|exact True.intro|refine Two.mk ?_ ?_);all_goals intros))|fail "")
      all_goals (refine ends_ (hr:=?_))
      all_goals first
        | (rw [if_pos (by omega)] <;> rfl)
        | (rw [if_neg (by omega),if_pos (by first|omega|(simp;done)|(simp;omega))] <;> rfl)
        | (rw [if_neg (by omega),if_neg (by first|omega|(simp;done)|(simp;omega))] <;> rfl)
        | (rw [if_neg (by omega),if_neg (by first|(simp;done)|(simp;omega))] <;> rfl)
  all_goals
    rw [h0] at h1 ⊢
    rw [if_pos (by omega)]
    refine fn_of_run (by kernel_rfl) Tryz.func217 rfl (by kernel_rfl) ?_
    (repeat' first|(refine s_call (h1) (h:=?_))|(refine p_call (h1) (h:=?_))|(refine go_ ?_;((repeat' first|exact True.intro|refine Two.mk ?_ ?_);all_goals intros))|fail "")
    all_goals exact ends_ (hr:=rfl)
theorem tArg0 {t:DTally} {n:Int} (ho:tOk t) (hn:0≤n∧n≤400):tArg t n=0:=by unfold tArg;rw [if_pos ho,if_pos hn]
theorem tArg6 {t:DTally} {n:Int} (ho:tOk t) (hn:¬ (0≤n∧n≤400)):tArg t n=6:=by unfold tArg;rw [if_pos ho,if_neg hn]
theorem tArg9 {t:DTally} {n:Int} (ho:¬ tOk t):tArg t n=9:=by unfold tArg;rw [if_neg ho]
theorem tallySentRef_fn (t:DTally) (n:Int) (hw:wfTally t):Fn Tryz.prog 228 [.agg (encTally t),.lit (.int .i64 n)] (.tup [.agg (encTally (tSend t n).1),.lit (.int .i64 (tSend t n).2)]):=by
  have h1:=tallyFaultRef_fn t hw
  unfold tFlt at h1
  unfold tSend
  by_cases ho:tOk t
  · have ho':=ho
    unfold tOk at ho'
    rw [if_pos ho] at h1
    by_cases hn:0≤n∧n≤400
    · rw [tArg0 ho hn,if_neg (by omega)]
      unfold encTally at h1 ⊢
      cases hb:t.Known
      all_goals
        rw [hb] at h1
        refine fn_of_run (by kernel_rfl) Tryz.func228 rfl (by kernel_rfl) ?_
        (repeat' first|(refine s_call (h1) (h:=?_))|(refine p_call (h1) (h:=?_))|(refine s_dec (upTo_fn _ _) (ht:=?_) (hff:=?_) <;> intro _ <;> try (exfalso;omega))|(refine p_dec (upTo_fn _ _) (ht:=?_) (hff:=?_) <;> intro _ <;> try (exfalso;omega))|(refine go_ ?_;((repeat' first|exact True.intro|refine Two.mk ?_ ?_);all_goals intros))|fail "")
        all_goals (refine ends_ (hr:=?_))
        all_goals first
          | (rw [if_pos (by omega)] <;> rfl)
          | (rw [if_neg (by omega),if_pos (by first|omega|(simp;done)|(simp;omega))] <;> rfl)
          | (rw [if_neg (by omega),if_neg (by first|omega|(simp;done)|(simp;omega))] <;> rfl)
    · rw [tArg6 ho hn,if_pos (by omega)]
      refine fn_of_run (by kernel_rfl) Tryz.func228 rfl (by kernel_rfl) ?_
      (repeat' first|(refine s_call (h1) (h:=?_))|(refine p_call (h1) (h:=?_))|(refine s_dec (upTo_fn _ _) (ht:=?_) (hff:=?_) <;> intro _ <;> try (exfalso;omega))|(refine p_dec (upTo_fn _ _) (ht:=?_) (hff:=?_) <;> intro _ <;> try (exfalso;omega))|(refine go_ ?_;((repeat' first|exact True.intro|refine Two.mk ?_ ?_);all_goals intros))|fail "")
      all_goals exact ends_ (hr:=rfl)
  · rw [if_neg ho] at h1
    rw [tArg9 ho,if_pos (by omega)]
    refine fn_of_run (by kernel_rfl) Tryz.func228 rfl (by kernel_rfl) ?_
    (repeat' first|(refine s_call (h1) (h:=?_))|(refine p_call (h1) (h:=?_))|(refine s_dec (upTo_fn _ _) (ht:=?_) (hff:=?_) <;> intro _ <;> try (exfalso;omega))|(refine p_dec (upTo_fn _ _) (ht:=?_) (hff:=?_) <;> intro _ <;> try (exfalso;omega))|(refine go_ ?_;((repeat' first|exact True.intro|refine Two.mk ?_ ?_);all_goals intros))|fail "")
    all_goals exact ends_ (hr:=rfl)
end Go.Proofs.YtendheafcbickaaGreat


set_option linter.unusedVariables false
set_option linter.unusedSimpArgs false
set_option linter.unusedVariables false
namespace Go.Proofs.YtendheafcbickaaGreat
set_option maxRecDepth 100000
attribute [local irreducible] Run RunL QStep GStep Fn Less PL FnM
def flwOk (f:DFlow):Prop:=0≤f.Used∧f.Used≤f.Max∧f.Max≤4611686018427387903
instance (f:DFlow):Decidable (flwOk f):=inferInstanceAs (Decidable (_∧_∧_))
def flwFlt (f:DFlow):Int:=if flwOk f then 0 else 9
theorem flwFlt_t {f:DFlow} (h:flwOk f):flwFlt f=0:=if_pos h
theorem flwFlt_f {f:DFlow} (h:¬ flwOk f):flwFlt f=9:=if_neg h
set_option maxHeartbeats 1000000 in
theorem flwCheck_fn (f:DFlow):Fn Tryz.prog 119 [.agg (encFlow f)] (.lit (.int .i64 (flwFlt f))):=by
  refine fn_of_run (by kernel_rfl) Tryz.func119 rfl (by kernel_rfl) ?_
  (repeat' first|(refine go_ ?_;((repeat' first|exact True.intro|refine Two.mk ?_ ?_);all_goals intros))|fail "")
  all_goals refine ends_ (hr:=?_)
  all_goals first
    | rw [flwFlt_t (by unfold flwOk;omega)]
    | rw [flwFlt_f (by unfold flwOk;omega)]
set_option maxHeartbeats 1000000 in
theorem flwFault_fn (f:DFlow):Fn Tryz.prog 139 [.agg (encFlow f)] (.lit (.int .i64 (flwFlt f))):=by
  refine fn_of_run (by kernel_rfl) Tryz.func139 rfl (by kernel_rfl) ?_
  (repeat' first|(refine s_dec (upTo_fn _ _) (ht:=?_) (hff:=?_) <;> intro _ <;> try (exfalso;omega))|(refine p_dec (upTo_fn _ _) (ht:=?_) (hff:=?_) <;> intro _ <;> try (exfalso;omega))|(refine go_ ?_;((repeat' first|exact True.intro|refine Two.mk ?_ ?_);all_goals intros))|fail "")
  all_goals refine ends_ (hr:=?_)
  all_goals first
    | rw [flwFlt_t (by unfold flwOk;omega)]
    | rw [flwFlt_f (by unfold flwOk;omega)]
end Go.Proofs.YtendheafcbickaaGreat


set_option linter.unusedVariables false
set_option linter.unusedSimpArgs false
set_option linter.unusedVariables false
namespace Go.Proofs.YtendheafcbickaaGreat
set_option maxRecDepth 100000
attribute [local irreducible] Run RunL QStep GStep Fn Less PL
def paceOk (p:DPace):Prop:=200≤p.Window∧p.Window≤1099511627776∧0≤p.Thresh∧p.Thresh≤1099511627776∧0≤p.Flying∧p.Flying≤1099511627776 ∧ -1≤p.Since∧p.Since≤1099511627776
instance (p:DPace):Decidable (paceOk p):=inferInstanceAs (Decidable (_∧_))
def paceFlt (p:DPace):Int:=if paceOk p then 0 else 9
def inM (x:Int):Prop:=0≤x∧x≤1099511627776
instance (x:Int):Decidable (inM x):=inferInstanceAs (Decidable (_∧_))
def paceArg (p:DPace) (l:List Int):Int:=if paceOk p then (if ∀ x ∈ l,inM x then 0 else 6) else 9
theorem paceCheck_fn (p:DPace):Fn Tryz.prog 118 [.agg (encPace p)] (.lit (.int .i64 (paceFlt p))):=by
  refine fn_of_run (by kernel_rfl) Tryz.func118 rfl (by kernel_rfl) ?_
  (repeat' first|(refine go_ ?_;((repeat' first|exact True.intro|refine Two.mk ?_ ?_);all_goals intros))|fail "")
  all_goals (refine ends_ (hr:=?_);unfold paceFlt)
  all_goals first
    | rw [if_pos (by unfold paceOk;omega)]
    | rw [if_neg (by unfold paceOk;omega)]
theorem paceFaultRef_fn (p:DPace) (hw:wfPace p):Fn Tryz.prog 138 [.agg (encPace p)] (.lit (.int .i64 (paceFlt p))):=by
  unfold wfPace I64 at hw
  have hs:p.Since≠9223372036854775807∨(p.Since=9223372036854775807∧IntKind.i64.wrap (p.Since+1) = -9223372036854775808):=by
    by_cases h:p.Since=9223372036854775807
    · right;rw [h];exact ⟨rfl,rfl⟩
    · exact .inl h
  rcases hs with hs|hs
  all_goals
    refine fn_of_run (by kernel_rfl) Tryz.func138 rfl (by kernel_rfl) ?_
    (repeat' first|(refine s_dec (upTo_fn _ _) (ht:=?_) (hff:=?_) <;> intro _ <;> try (exfalso;omega))|(refine p_dec (upTo_fn _ _) (ht:=?_) (hff:=?_) <;> intro _ <;> try (exfalso;omega))|(refine go_ ?_;((repeat' first|exact True.intro|refine Two.mk ?_ ?_);all_goals intros))|fail "")
    all_goals (refine ends_ (hr:=?_);unfold paceFlt)
    all_goals first
      | rw [if_pos (by unfold paceOk;omega)]
      | rw [if_neg (by unfold paceOk;omega)]
theorem paceFault_fn (p:DPace) (l:List Int) (hl:l.length≤100):Fn Tryz.prog 277 [.agg (encPace p),.ro (l.map encI)] (.lit (.int .i64 (paceArg p l))):=by
  unfold paceArg
  by_cases ho:paceOk p
  · have h1:=paceCheck_fn p
    rw [show paceFlt p=0 from if_pos ho] at h1
    rw [if_pos ho]
    refine fn_of_run (by kernel_rfl) Tryz.func277 rfl (by kernel_rfl) ?_
    (repeat' first|(refine s_call (h1) (h:=?_))|(refine p_call (h1) (h:=?_))|(refine go_ ?_;((repeat' first|exact True.intro|refine Two.mk ?_ ?_);all_goals intros))|fail "")
    refine r_for (fun k:Nat=>⟨[(1,.ro (l.map encI)),(13,.ro (l.map encI)),(14,.lit (.int .i64 l.length)),(15,.lit (.int .i64 k))],[],0,Tryz.f277.ntmps⟩)
      (fun k=>k≤l.length ∧ ∀ x ∈ l.take k,inM x) (fun k=>l.length - k) 0 ⟨Nat.zero_le _,by simp⟩ less_to ?_
    rintro k ⟨hk,ht⟩
    by_cases hkn:k<l.length
    · (repeat' first|(refine go_ ?_;((repeat' first|exact True.intro|refine Two.mk ?_ ?_);all_goals intros))|fail "")
      all_goals first
        | (refine ⟨k+1,?_,?_,?_⟩;rotate_left 2;(exact lessA_);(exact Z69_);(focus (exact ⟨hkn,mem_take_snoc hkn ht (by unfold inM;omega)⟩)))
        | (refine ends_ (hr:=?_);rw [if_neg (fun h=>?_)];have:=h _ (getD_mem hkn);unfold inM at this;omega)
    · (repeat' first|(refine go_ ?_;((repeat' first|exact True.intro|refine Two.mk ?_ ?_);all_goals intros))|fail "")
      all_goals (refine ends_ (hr:=?_);rw [if_pos (by rw [List.take_of_length_le (by omega)] at ht;exact ht)])
  · have h1:=paceCheck_fn p
    rw [show paceFlt p=9 from if_neg ho] at h1
    rw [if_neg ho]
    refine fn_of_run (by kernel_rfl) Tryz.func277 rfl (by kernel_rfl) ?_
    (repeat' first|(refine s_call (h1) (h:=?_))|(refine p_call (h1) (h:=?_))|(refine go_ ?_;((repeat' first|exact True.intro|refine Two.mk ?_ ?_);all_goals intros))|fail "")
    all_goals exact ends_ (hr:=rfl)
theorem paceFaultArgRef_fn (p:DPace) (hw:wfPace p) (l:List Int) (hl:l.length≤100):Fn Tryz.prog 282 [.agg (encPace p),.ro (l.map encI)] (.lit (.int .i64 (paceArg p l))):=by
  have h1:=paceFaultRef_fn p hw
  unfold paceArg
  by_cases ho:paceOk p
  · rw [show paceFlt p=0 from if_pos ho] at h1
    rw [if_pos ho]
    refine fn_of_run (by kernel_rfl) Tryz.func282 rfl (by kernel_rfl) ?_
    (repeat' first|(refine s_call (h1) (h:=?_))|(refine p_call (h1) (h:=?_))|(refine go_ ?_;((repeat' first|exact True.intro|refine Two.mk ?_ ?_);all_goals intros))|fail "")
    refine r_for (fun x:Nat×Int=>⟨[(1,.ro (l.map encI)),(10,.ro (l.map encI)),(11,.lit (.int .i64 l.length)),(12,.lit (.int .i64 x.1)),(5,.lit (.int .i64 x.2))],[],0,Tryz.f282.ntmps⟩)
      (fun x=>x.1≤l.length∧(x.2=0∧(∀ y ∈ l.take x.1,inM y)∨x.2=6 ∧ ¬ ∀ y ∈ l,inM y)) (fun x=>l.length - x.1) (0,0) ⟨Nat.zero_le _,.inl ⟨rfl,by simp⟩⟩ less_to ?_
    rintro ⟨k,e⟩ ⟨hk,ht⟩
    dsimp only at hk ht ⊢
    by_cases hkn:k<l.length
    · rcases ht with ⟨rfl,ht⟩ | ⟨rfl,ht⟩
      · (repeat' first|(refine s_dec (upTo_fn _ _) (ht:=?_) (hff:=?_) <;> intro _ <;> try (exfalso;omega))|(refine p_dec (upTo_fn _ _) (ht:=?_) (hff:=?_) <;> intro _ <;> try (exfalso;omega))|(refine go_ ?_;((repeat' first|exact True.intro|refine Two.mk ?_ ?_);all_goals intros))|fail "")
        all_goals first
          | (refine ⟨(k+1,0),?_,?_,?_⟩;rotate_left 2;(exact lessA_);(exact Z66_);(focus (exact ⟨hkn,.inl ⟨rfl,mem_take_snoc hkn ht (by unfold inM;omega)⟩⟩)))
          | (refine ⟨(k+1,6),?_,?_,?_⟩;rotate_left 2;(exact lessA_);(exact Z66_);(focus (refine ⟨hkn,.inr ⟨rfl,fun h=>?_⟩⟩;have:=h _ (getD_mem hkn);unfold inM at this;omega)))
      · (repeat' first|(refine s_dec (upTo_fn _ _) (ht:=?_) (hff:=?_) <;> intro _ <;> try (exfalso;omega))|(refine p_dec (upTo_fn _ _) (ht:=?_) (hff:=?_) <;> intro _ <;> try (exfalso;omega))|(refine go_ ?_;((repeat' first|exact True.intro|refine Two.mk ?_ ?_);all_goals intros))|fail "")
        all_goals (refine ⟨(k+1,6),?_,?_,?_⟩;rotate_left 2;(exact lessA_);(exact Z66_);(focus (exact ⟨hkn,.inr ⟨rfl,ht⟩⟩)))
    · rcases ht with ⟨rfl,ht⟩ | ⟨rfl,ht⟩
      · (repeat' first|(refine go_ ?_;((repeat' first|exact True.intro|refine Two.mk ?_ ?_);all_goals intros))|fail "")
        all_goals (refine ends_ (hr:=?_);rw [if_pos (by rw [List.take_of_length_le (by omega)] at ht;exact ht)])
      · (repeat' first|(refine go_ ?_;((repeat' first|exact True.intro|refine Two.mk ?_ ?_);all_goals intros))|fail "")
        all_goals (refine ends_ (hr:=?_);rw [if_neg ht])
  · rw [show paceFlt p=9 from if_neg ho] at h1
    rw [if_neg ho]
    refine fn_of_run (by kernel_rfl) Tryz.func282 rfl (by kernel_rfl) ?_
    (repeat' first|(refine s_call (h1) (h:=?_))|(refine p_call (h1) (h:=?_))|(refine go_ ?_;((repeat' first|exact True.intro|refine Two.mk ?_ ?_);all_goals intros))|fail "")
    refine r_for (fun k:Nat=>⟨[(1,.ro (l.map encI)),(10,.ro (l.map encI)),(11,.lit (.int .i64 l.length)),(12,.lit (.int .i64 k)),(5,.lit (.int .i64 9))],[],0,Tryz.f282.ntmps⟩)
      (fun k=>k≤l.length) (fun k=>l.length - k) 0 (Nat.zero_le _) less_to ?_
    intro k hk
    by_cases hkn:k<l.length
    · (repeat' first|(refine s_dec (upTo_fn _ _) (ht:=?_) (hff:=?_) <;> intro _ <;> try (exfalso;omega))|(refine p_dec (upTo_fn _ _) (ht:=?_) (hff:=?_) <;> intro _ <;> try (exfalso;omega))|(refine go_ ?_;((repeat' first|exact True.intro|refine Two.mk ?_ ?_);all_goals intros))|fail "")
      all_goals (refine ⟨k+1,?_,?_,?_⟩;rotate_left 2;(exact lessA_);(exact Z69_);(exact Z67_))
    · (repeat' first|(refine go_ ?_;((repeat' first|exact True.intro|refine Two.mk ?_ ?_);all_goals intros))|fail "")
      all_goals exact ends_ (hr:=rfl)
def paceLostV (p:DPace) (n s t:Int):DPace×Int:=
  if paceArg p [n,s,t]≠0 then (⟨0,0,0,0⟩,paceArg p [n,s,t])
  else if p.Flying<n then (⟨0,0,0,0⟩,13)
  else if s≤p.Since then (⟨p.Window,p.Thresh,p.Flying - n,p.Since⟩,0)
  else (⟨max (p.Window / 2) 200,max (p.Window / 2) 200,p.Flying - n,max t s⟩,0)
theorem paceArg_ok {p:DPace} {l:List Int} (h:paceArg p l=0):paceOk p ∧ ∀ x ∈ l,inM x:=by
  unfold paceArg at h
  split at h
  · rename_i h1
    split at h
    · rename_i h2;exact ⟨h1,h2⟩
    · omega
  · omega
end Go.Proofs.YtendheafcbickaaGreat
