/-
  SEVERAL TEXTS IN ONE: each with its own comment.
-/
import Derived.Test.YtendheafcbickaaGreatHZip
import Derived.Test.YtendheafcbickaaGreatHGo
import Derived.Test.YtendheafcbickaaGreatHMg06
import Derived.Test.YtendheafcbickaaGreatProg
import Derived.Test.YtendheafcbickaaGreatHEnc

set_option linter.unusedVariables false
set_option linter.unusedSimpArgs false
set_option linter.unusedVariables false
namespace Go.Proofs.YtendheafcbickaaGreat
set_option maxRecDepth 100000
attribute [local irreducible] Run RunL QStep GStep Fn Less PL
def rGood (r:DRange):Prop:=0≤r.Lo∧r.Lo≤r.Hi∧r.Hi≤4611686018427387903
instance (r:DRange):Decidable (rGood r):=inferInstanceAs (Decidable (_∧_))
def rSet:Int→List DRange→Prop
  | _,[]=>True
  | a,r :: l=>rGood r∧a+2≤r.Lo∧rSet r.Hi l
instance rSetDec:∀ (a:Int) (l:List DRange),Decidable (rSet a l)
  | _,[]=>inferInstanceAs (Decidable True)
  | a,r :: l=>by
    have:=rSetDec r.Hi l
    exact inferInstanceAs (Decidable (rGood r∧a+2≤r.Lo∧rSet r.Hi l))
def rFlt (l:List DRange):Int:=if rSet (-2) l then 0 else 3
def rgFlt (l:List DRange) (r:DRange):Int:=if rFlt l≠0 then rFlt l else if rGood r then 0 else 6
theorem good_fn (r:DRange):Fn Tryz.prog 287 [.agg (encRange r)] (.lit (.bool (decide (rGood r)))):=by
  refine fn_of_run (by kernel_rfl) Tryz.func287 rfl (by kernel_rfl) ?_
  (repeat' first|(refine go_ ?_;((repeat' first|exact True.intro|refine Two.mk ?_ ?_);all_goals intros))|fail "")
  all_goals (refine ends_ (hr:=?_))
  all_goals first
    | rw [decide_eq_true (by unfold rGood;omega)]
    | rw [decide_eq_false (by unfold rGood;omega)]
theorem isRange_fn (r:DRange):Fn Tryz.prog 144 [.agg (encRange r)] (.lit (.bool (decide (rGood r)))):=by
  refine fn_of_run (by kernel_rfl) Tryz.func144 rfl (by kernel_rfl) ?_
  (repeat' first|(refine s_dec (upTo_fn _ _) (ht:=?_) (hff:=?_) <;> intro _ <;> try (exfalso;omega))|(refine p_dec (upTo_fn _ _) (ht:=?_) (hff:=?_) <;> intro _ <;> try (exfalso;omega))|(refine go_ ?_;((repeat' first|exact True.intro|refine Two.mk ?_ ?_);all_goals intros))|fail "")
  all_goals (refine ends_ (hr:=?_))
  all_goals first
    | rw [decide_eq_true (by unfold rGood;omega)]
    | rw [decide_eq_false (by unfold rGood;omega)]
def lastHi (l:List DRange) (k:Nat):Int:=if k=0 then -2 else (l.getD (k - 1) default).Hi
theorem rSet_drop {l:List DRange} {k:Nat} {a:Int} (h:k<l.length):rSet a (l.drop k) ↔ rGood (l.getD k default)∧a+2≤(l.getD k default).Lo∧rSet (lastHi l (k+1)) (l.drop (k+1)):=by
  rw [drop_cons h];unfold lastHi;rw [if_neg (by omega),Nat.add_sub_cancel];rfl
theorem rangesCheck_fn (l:List DRange) (hw:∀ y,y ∈ l→wfRange y) (hl:l.length * 16≤140737488355312):Fn Tryz.prog 237 [.ro (l.map encRange)] (.lit (.int .i64 (rFlt l))):=by
  refine fn_of_run (by kernel_rfl) Tryz.func237 rfl (by kernel_rfl) ?_
  (repeat' first|(refine go_ ?_;((repeat' first|exact True.intro|refine Two.mk ?_ ?_);all_goals intros))|fail "")
  refine r_for (fun k:Nat=>⟨[(0,.ro (l.map encRange)),(5,.ro (l.map encRange)),(6,.lit (.int .i64 l.length)),(7,.lit (.int .i64 k))],[],0,Tryz.f237.ntmps⟩)
    (fun k=>k≤l.length∧(rSet (-2) l ↔ rSet (lastHi l k) (l.drop k)) ∧ -2≤lastHi l k∧lastHi l k≤4611686018427387903) (fun k=>l.length - k) 0 ⟨Nat.zero_le _,by simp [lastHi],by simp [lastHi],by simp [lastHi]⟩ less_to ?_
  rintro k ⟨hk,hi,hb1,hb2⟩
  by_cases hkn:k<l.length
  · have hd:=rSet_drop (a:=lastHi l k) hkn
    have hwk:=hw _ (getD_mem hkn)
    unfold wfRange I64 at hwk
    have hlast:lastHi l (k+1)=(l.getD k default).Hi:=by unfold lastHi;rw [if_neg (by omega),Nat.add_sub_cancel]
    by_cases hk0:k=0
    · have hz:lastHi l k = -2:=by unfold lastHi;rw [if_pos hk0]
      (repeat' first|(refine s_dec (good_fn _) (ht:=?_) (hff:=?_) <;> intro _ <;> try (exfalso;omega))|(refine p_dec (good_fn _) (ht:=?_) (hff:=?_) <;> intro _ <;> try (exfalso;omega))|(refine go_ ?_;((repeat' first|exact True.intro|refine Two.mk ?_ ?_);all_goals intros))|fail "")
      all_goals first
        | (refine ends_ (hr:=?_);unfold rFlt;rw [if_neg (fun h=>?_)];have:=hd.1 (hi.1 h);unfold rGood at *;omega)
        | (refine ⟨k+1,?_,?_,?_⟩;rotate_left 2;(exact lessA_);(exact Z69_);(exact Z4_))
    · have hz:lastHi l k=(l.getD (k - 1) default).Hi:=by unfold lastHi;rw [if_neg hk0]
      rw [hz] at hd hb1 hb2
      (repeat' first|(refine s_dec (good_fn _) (ht:=?_) (hff:=?_) <;> intro _ <;> try (exfalso;omega))|(refine p_dec (good_fn _) (ht:=?_) (hff:=?_) <;> intro _ <;> try (exfalso;omega))|(refine go_ ?_;((repeat' first|exact True.intro|refine Two.mk ?_ ?_);all_goals intros))|fail "")
      all_goals first
        | (refine ends_ (hr:=?_);unfold rFlt;rw [if_neg (fun h=>?_)];rw [hz] at hi;have:=hd.1 (hi.1 h);unfold rGood at *;omega)
        | (refine ⟨k+1,?_,?_,?_⟩;rotate_left 2;(exact lessA_);(exact Z69_);(focus (have hg:rGood (l.getD k default):=(by assumption);unfold rGood at hg;rw [hz] at hi;refine ⟨hkn,⟨fun h=>(hd.1 (hi.1 h)).2.2,fun h=>hi.2 (hd.2 ⟨by assumption,?_,h⟩)⟩,?_,?_⟩ <;> omega)))
  · (repeat' first|(refine go_ ?_;((repeat' first|exact True.intro|refine Two.mk ?_ ?_);all_goals intros))|fail "")
    all_goals (refine ends_ (hr:=?_);unfold rFlt;rw [if_pos (hi.2 (by rw [List.drop_eq_nil_of_le (by omega)];trivial))])
set_option maxHeartbeats 2000000 in
theorem sameRanges_fn (l m:List DRange) (hl:l.length * 16≤140737488355328) (hm:m.length * 16≤140737488355328):Fn Tryz.prog 158 [.ro (l.map encRange),.ro (m.map encRange)] (.lit (.bool (yes (l=m)))):=by
  by_cases hlen:l.length=m.length
  · refine fn_of_run (by kernel_rfl) Tryz.func158 rfl (by kernel_rfl) ?_
    (repeat' first|(refine go_ ?_;((repeat' first|exact True.intro|refine Two.mk ?_ ?_);all_goals intros))|fail "")
    refine r_for (fun x:Nat×Bool=>⟨[(0,.ro (l.map encRange)),(1,.ro (m.map encRange)),(5,.lit (.bool x.2)),(6,.lit (.int .i64 x.1))],[],0,Tryz.f158.ntmps⟩)
      (fun x=>Along l m (l=m) x.1 x.2) (fun x=>l.length - x.1) (0,true) ⟨Nat.zero_le _,fun _=>⟨hlen,rfl⟩,fun h=>by cases h⟩ less_to ?_
    rintro ⟨k,ok⟩ ⟨hk,hs,hn⟩
    dsimp only at hk hs hn ⊢
    cases ok
    · (repeat' first|(refine go_ ?_;((repeat' first|exact True.intro|refine Two.mk ?_ ?_);all_goals intros))|fail "")
      all_goals (refine ends_ (hr:=?_);exact noV (hn rfl))
    · obtain ⟨_,ht⟩:=hs rfl
      by_cases hkn:k<l.length
      · skip
        (repeat' first|(refine go_ ?_;((repeat' first|exact True.intro|refine Two.mk ?_ ?_);all_goals intros))|fail "")
        all_goals first
          | (refine ⟨(k+1,true),?_,?_,?_⟩;rotate_left 2;(exact lessA_);(exact Z66_);(focus (exact ⟨hkn,fun _=>⟨hlen,take_same hkn (by omega) ht (by have h:=‹_∧_›;exact ext_Range h.1 h.2.1)⟩,fun h=>by cases h⟩)))
          | (refine ⟨(k+1,false),?_,?_,?_⟩;rotate_left 2;(exact lessA_);(exact Z66_);(focus (exact ⟨hkn,fun h=>(by cases h),fun _=>ne_getD (k:=k) (by intro e;simp_all)⟩)))
      · (repeat' first|(refine go_ ?_;((repeat' first|exact True.intro|refine Two.mk ?_ ?_);all_goals intros))|fail "")
        all_goals (refine ends_ (hr:=?_);exact yesV (take_all (by omega) (by omega) ht))
  · refine fn_of_run (by kernel_rfl) Tryz.func158 rfl (by kernel_rfl) ?_
    (repeat' first|(refine go_ ?_;((repeat' first|exact True.intro|refine Two.mk ?_ ?_);all_goals intros))|fail "")
    refine r_for (fun _:Unit=>⟨[(5,.lit (.bool false))],[],0,Tryz.f158.ntmps⟩) (fun _=>True) (fun _=>0) () trivial less_to ?_
    intro _ _
    (repeat' first|(refine go_ ?_;((repeat' first|exact True.intro|refine Two.mk ?_ ?_);all_goals intros))|fail "")
    all_goals (refine ends_ (hr:=?_);exact noV (fun e=>hlen (by rw [e])))
end Go.Proofs.YtendheafcbickaaGreat


set_option linter.unusedVariables false
set_option linter.unusedSimpArgs false
set_option linter.unusedVariables false
namespace Go.Proofs.YtendheafcbickaaGreat
set_option maxRecDepth 100000
attribute [local irreducible] Run RunL QStep GStep Fn Less PL
theorem sameBytes_fn (l m:List UInt8):Fn Tryz.prog 47 [.ro (l.map encB),.ro (m.map encB)] (.lit (.bool (yes (l=m)))):=by
  refine fn_of_run (by kernel_rfl) Tryz.func47 rfl (by kernel_rfl) ?_
  (repeat' first|(refine go_ ?_;((repeat' first|exact True.intro|refine Two.mk ?_ ?_);all_goals intros))|fail "")
  all_goals refine ends_ (hr:=?_)
  · exact yesV (by assumption)
  · exact noV (by assumption)
end Go.Proofs.YtendheafcbickaaGreat


set_option linter.unusedVariables false
set_option linter.unusedSimpArgs false
set_option linter.unusedVariables false
namespace Go.Proofs.YtendheafcbickaaGreat
set_option maxRecDepth 100000
attribute [local irreducible] Run RunL QStep GStep Fn Less PL
theorem mem_snoc {l:List Int} {k:Nat} {n:Int} (h:k<l.length):n ∈ l.take (k+1) ↔ n ∈ l.take k∨n=l.getD k default:=by
  rw [take_snoc h,List.mem_append,List.mem_singleton]
theorem skipped_fn (s:DSpace) (n:Int) (hw:wfSpace s):Fn Tryz.prog 238 [.agg (encSpace s),.lit (.int .i64 n)] (.lit (.bool (decide (n ∈ s.Skip)))):=by
  have hl:s.Skip.length≤1000000000000000:=by have:=hw.2.2.2.2.2.2.1;omega
  refine fn_of_run (by kernel_rfl) Tryz.func238 rfl (by kernel_rfl) ?_
  (repeat' first|(refine go_ ?_;((repeat' first|exact True.intro|refine Two.mk ?_ ?_);all_goals intros))|fail "")
  refine r_for (fun k:Nat=>⟨[(1,.lit (.int .i64 n)),(8,.ro (s.Skip.map encI)),(9,.lit (.int .i64 s.Skip.length)),(10,.lit (.int .i64 k))],[],0,Tryz.f238.ntmps⟩)
    (fun k=>k≤s.Skip.length ∧ ¬ n ∈ s.Skip.take k) (fun k=>s.Skip.length - k) 0 ⟨Nat.zero_le _,by simp⟩ less_to ?_
  rintro k ⟨hk,hn⟩
  by_cases hkn:k<s.Skip.length
  · (repeat' first|(refine go_ ?_;((repeat' first|exact True.intro|refine Two.mk ?_ ?_);all_goals intros))|fail "")
    all_goals first
      | (refine ⟨k+1,?_,?_,?_⟩;rotate_left 2;(exact lessA_);(exact Z69_);(exact Z34_))
      | (refine ends_ (hr:=?_);rw [decide_eq_true (by have h:=getD_mem hkn;rwa [show s.Skip.getD k default=n by assumption] at h)])
  · (repeat' first|(refine go_ ?_;((repeat' first|exact True.intro|refine Two.mk ?_ ?_);all_goals intros))|fail "")
    all_goals (refine ends_ (hr:=?_);rw [decide_eq_false (by rw [List.take_of_length_le (by omega)] at hn;exact hn)])
theorem isIn_fn (l:List Int) (n:Int) (hl:l.length * 8≤140737488351232):Fn Tryz.prog 254 [.ro (l.map encI),.lit (.int .i64 n)] (.lit (.bool (decide (n ∈ l)))):=by
  refine fn_of_run (by kernel_rfl) Tryz.func254 rfl (by kernel_rfl) ?_
  (repeat' first|(refine go_ ?_;((repeat' first|exact True.intro|refine Two.mk ?_ ?_);all_goals intros))|fail "")
  refine r_for (fun k:Nat=>⟨[(1,.lit (.int .i64 n)),(7,.ro (l.map encI)),(8,.lit (.int .i64 l.length)),(9,.lit (.int .i64 k))],[],0,Tryz.f254.ntmps⟩)
    (fun k=>k≤l.length ∧ ¬ n ∈ l.take k) (fun k=>l.length - k) 0 ⟨Nat.zero_le _,by simp⟩ less_to ?_
  rintro k ⟨hk,hn⟩
  by_cases hkn:k<l.length
  · (repeat' first|(refine go_ ?_;((repeat' first|exact True.intro|refine Two.mk ?_ ?_);all_goals intros))|fail "")
    all_goals first
      | (refine ⟨k+1,?_,?_,?_⟩;rotate_left 2;(exact lessA_);(exact Z69_);(exact Z34_))
      | (refine ends_ (hr:=?_);rw [decide_eq_true (by have h:=getD_mem hkn;rwa [show l.getD k default=n by assumption] at h)])
  · (repeat' first|(refine go_ ?_;((repeat' first|exact True.intro|refine Two.mk ?_ ?_);all_goals intros))|fail "")
    all_goals (refine ends_ (hr:=?_);rw [decide_eq_false (by rw [List.take_of_length_le (by omega)] at hn;exact hn)])
def sentQ (s:DSpace) (i:Nat):Prop:=0≤(s.Sent.getD i default).Number∧(s.Sent.getD i default).Number<s.Next∧0≤(s.Sent.getD i default).Time∧(s.Sent.getD i default).Time≤1099511627776∧0≤(s.Sent.getD i default).Size∧(s.Sent.getD i default).Size≤400 ∧
  ¬ (s.Sent.getD i default).Number ∈ s.Skip∧(i=0∨(s.Sent.getD (i - 1) default).Number<(s.Sent.getD i default).Number)
def skipQ (s:DSpace) (i:Nat):Prop:=0≤s.Skip.getD i default∧s.Skip.getD i default<s.Next∧(i=0∨s.Skip.getD (i - 1) default<s.Skip.getD i default)
def spHead (s:DSpace):Prop:=0≤s.Next∧s.Next≤4611686018427387903 ∧ -1≤s.Top∧s.Top<s.Next∧s.Sent.length≤24∧s.Heard.length≤6∧rFlt s.Heard=0∧s.Skip.length≤6
def spOk (s:DSpace):Prop:=(spHead s ∧ ¬ s.Top ∈ s.Skip)∧AllTo (sentQ s) s.Sent.length∧AllTo (skipQ s) s.Skip.length
open Classical in
noncomputable def spFlt (s:DSpace):Int:=if spOk s then 0 else 9
theorem spFlt_cases (s:DSpace):(spFlt s=0∧spOk s)∨(spFlt s=9 ∧ ¬ spOk s):=by
  unfold spFlt
  by_cases h:spOk s
  · exact .inl ⟨if_pos h,h⟩
  · exact .inr ⟨if_neg h,h⟩
theorem spFlt_t {s:DSpace} (h:spOk s):spFlt s=0:=if_pos h
theorem spFlt_f {s:DSpace} (h:¬ spOk s):spFlt s=9:=if_neg h
def prevN (s:DSpace) (k:Nat):Int:=if k=0 then -1 else (s.Sent.getD (k - 1) default).Number
def prevS (s:DSpace) (k:Nat):Int:=if k=0 then -1 else s.Skip.getD (k - 1) default
theorem prevN_pos {s:DSpace} {k:Nat} (h:AllTo (sentQ s) k) : -1≤prevN s k:=by
  unfold prevN
  split
  · omega
  · have:=(h (k - 1) (by omega)).1;omega
theorem prevS_pos {s:DSpace} {k:Nat} (h:AllTo (skipQ s) k) : -1≤prevS s k:=by
  unfold prevS
  split
  · omega
  · have:=(h (k - 1) (by omega)).1;omega
theorem prevN_succ (s:DSpace) (k:Nat):prevN s (k+1)=(s.Sent.getD k default).Number:=by unfold prevN;rw [if_neg (by omega),Nat.add_sub_cancel]
theorem prevS_succ (s:DSpace) (k:Nat):prevS s (k+1)=s.Skip.getD k default:=by unfold prevS;rw [if_neg (by omega),Nat.add_sub_cancel]
theorem sentQ_iff {s:DSpace} {k:Nat} (h:AllTo (sentQ s) k):sentQ s k ↔ (prevN s k<(s.Sent.getD k default).Number∧(s.Sent.getD k default).Number<s.Next∧0≤(s.Sent.getD k default).Time∧(s.Sent.getD k default).Time≤1099511627776∧0≤(s.Sent.getD k default).Size∧(s.Sent.getD k default).Size≤400 ∧ ¬ (s.Sent.getD k default).Number ∈ s.Skip):=by
  have hp:=prevN_pos h
  unfold sentQ
  unfold prevN at *
  by_cases hk:k=0
  · rw [if_pos hk]
    exact ⟨fun ⟨a,b,c,d,e,f,g,_⟩=>⟨by omega,b,c,d,e,f,g⟩,fun ⟨a,b,c,d,e,f,g⟩=>⟨by omega,b,c,d,e,f,g,.inl hk⟩⟩
  · rw [if_neg hk] at *
    exact ⟨fun ⟨a,b,c,d,e,f,g,q⟩=>⟨by omega,b,c,d,e,f,g⟩,fun ⟨a,b,c,d,e,f,g⟩=>⟨by omega,b,c,d,e,f,g,.inr a⟩⟩
theorem skipQ_iff {s:DSpace} {k:Nat} (h:AllTo (skipQ s) k):skipQ s k ↔ (prevS s k<s.Skip.getD k default∧s.Skip.getD k default<s.Next):=by
  have hp:=prevS_pos h
  unfold skipQ
  unfold prevS at *
  by_cases hk:k=0
  · rw [if_pos hk]
    exact ⟨fun ⟨a,b,_⟩=>⟨by omega,b⟩,fun ⟨a,b⟩=>⟨by omega,b,.inl hk⟩⟩
  · rw [if_neg hk] at *
    exact ⟨fun ⟨a,b,q⟩=>⟨by omega,b⟩,fun ⟨a,b⟩=>⟨by omega,b,.inr a⟩⟩
set_option maxHeartbeats 2000000 in
theorem spaceCheck_fn (s:DSpace) (hw:wfSpace s):Fn Tryz.prog 117 [.agg (encSpace s)] (.lit (.int .i64 (spFlt s))):=by
  have l1:s.Sent.length≤1000000000000000:=by have:=hw.2.1;omega
  have l2:s.Skip.length≤1000000000000000:=by have:=hw.2.2.2.2.2.2.1;omega
  have l3:s.Heard.length≤1000000000000000:=by have:=hw.2.2.2.2.1;omega
  have h1:=rangesCheck_fn s.Heard hw.2.2.2.2.2.1 (by have:=hw.2.2.2.2.1;omega)
  refine fn_of_run (by kernel_rfl) Tryz.func117 rfl (by kernel_rfl) ?_
  refine r_seq ?_
  refine r_region ?_
  (repeat' first|(refine goS_ ?_;((repeat' first|exact True.intro|refine Two.mk ?_ ?_);all_goals intros))|fail "")
  refine thenQ_n ?_
  refine r_cut (fun ok:Bool=>⟨[(1,.ptr 0 0 0 0),(2,.lit (.int .i64 0)),(3,.lit (.bool ok))],[(0,some (.box 43 (encSpace s)))],1,Tryz.f117.ntmps⟩) (fun ok=>ok=true ↔ spHead s) ?_ ?_
  · (repeat' first|(refine s_call (h1) (h:=?_))|(refine p_call (h1) (h:=?_))|(refine go_ ?_;((repeat' first|exact True.intro|refine Two.mk ?_ ?_);all_goals intros))|fail "")
    all_goals first
      | (refine ⟨true,?_,?_⟩;rotate_left 1;(exact lessA_);(focus (exact ⟨fun _=>(by unfold spHead;omega),fun _=>rfl⟩)))
      | (refine ⟨false,?_,?_⟩;rotate_left 1;(exact lessA_);(focus (exact ⟨(fun h=>by cases h),fun h=>(by unfold spHead at h;omega)⟩)))
  rintro ok hok
  (repeat' first|(refine go_ ?_;((repeat' first|exact True.intro|refine Two.mk ?_ ?_);all_goals intros))|fail "")
  refine r_for (fun x:Nat×Bool=>⟨[(1,.ptr 0 0 0 0),(2,.lit (.int .i64 0)),(3,.lit (.bool x.2)),(4,.lit (.int .i64 (prevN s x.1))),(54,.ro (s.Sent.map encParcel)),(55,.lit (.int .i64 s.Sent.length)),(56,.lit (.int .i64 x.1))],[(0,some (.box 43 (encSpace s)))],1,Tryz.f117.ntmps⟩)
      (fun x=>x.1≤s.Sent.length∧(x.2=true ↔ spHead s∧AllTo (sentQ s) x.1)) (fun x=>s.Sent.length - x.1) (0,ok) ⟨Nat.zero_le _,by rw [hok];exact ⟨fun h=>⟨h,allTo0⟩,fun h=>h.1⟩⟩ less_to ?_
  rintro ⟨k,ok⟩ ⟨hk,hi⟩
  dsimp only at hk hi ⊢
  by_cases hkn:k<s.Sent.length
  · have hpn:=prevN_succ s k
    cases ok
    · have hi:¬ (spHead s∧AllTo (sentQ s) k):=fun h=>by have:=hi.2 h;cases this
      (repeat' first|(refine go_ ?_;((repeat' first|exact True.intro|refine Two.mk ?_ ?_);all_goals intros))|fail "")
      all_goals (refine ⟨(k+1,false),?_,?_,?_⟩;rotate_left 2;(exact lessA_);(exact Z66_);(exact Z40_))
    · obtain ⟨hh,ha⟩:=hi.1 rfl
      have hq:=sentQ_iff ha
      (repeat' first|(refine s_dec (skipped_fn s _ hw) (ht:=?_) (hff:=?_) <;> intro _ <;> try (exfalso;omega))|(refine p_dec (skipped_fn s _ hw) (ht:=?_) (hff:=?_) <;> intro _ <;> try (exfalso;omega))|(refine go_ ?_;((repeat' first|exact True.intro|refine Two.mk ?_ ?_);all_goals intros))|fail "")
      all_goals first
        | (refine ⟨(k+1,true),?_,?_,?_⟩;rotate_left 2;(exact lessA_);(exact Z66_);(focus (exact ⟨hkn,fun _=>⟨hh,allTo_succ.2 ⟨ha,hq.2 ⟨by omega,by omega,by omega,by omega,by omega,by omega,by assumption⟩⟩⟩,fun _=>rfl⟩)))
        | (refine ⟨(k+1,false),?_,?_,?_⟩;rotate_left 2;(exact lessA_);(exact Z66_);(focus (refine ⟨hkn,(fun h=>by cases h),fun h=>?_⟩;obtain ⟨q1,q2,q3,q4,q5,q6,q7⟩:=hq.1 (allTo_succ.1 h.2).2;first|(exfalso;omega)|exact absurd (by assumption) q7)))
  · have hkl:k=s.Sent.length:=by omega
    subst hkl
    (repeat' first|(refine go_ ?_;((repeat' first|exact True.intro|refine Two.mk ?_ ?_);all_goals intros))|fail "")
    refine r_for (fun x:Nat×Bool=>⟨[(1,.ptr 0 0 0 0),(2,.lit (.int .i64 0)),(3,.lit (.bool x.2)),(4,.lit (.int .i64 (prevS s x.1))),(105,.ro (s.Skip.map encI)),(106,.lit (.int .i64 s.Skip.length)),(107,.lit (.int .i64 x.1))],[(0,some (.box 43 (encSpace s)))],1,Tryz.f117.ntmps⟩)
      (fun x=>x.1≤s.Skip.length∧(x.2=true ↔ (spHead s∧AllTo (sentQ s) s.Sent.length)∧AllTo (skipQ s) x.1)) (fun x=>s.Skip.length - x.1) (0,ok) ⟨Nat.zero_le _,by rw [hi];exact ⟨fun h=>⟨h,allTo0⟩,fun h=>h.1⟩⟩ less_to ?_
    rintro ⟨k,ok⟩ ⟨hk,hi⟩
    dsimp only at hk hi ⊢
    by_cases hkn:k<s.Skip.length
    · have hpn:=prevS_succ s k
      cases ok
      · have hi:¬ ((spHead s∧AllTo (sentQ s) s.Sent.length)∧AllTo (skipQ s) k):=fun h=>by have:=hi.2 h;cases this
        (repeat' first|(refine go_ ?_;((repeat' first|exact True.intro|refine Two.mk ?_ ?_);all_goals intros))|fail "")
        all_goals (refine ⟨(k+1,false),?_,?_,?_⟩;rotate_left 2;(exact lessA_);(exact Z66_);(exact Z40_))
      · obtain ⟨hh,ha⟩:=hi.1 rfl
        have hq:=skipQ_iff ha
        (repeat' first|(refine go_ ?_;((repeat' first|exact True.intro|refine Two.mk ?_ ?_);all_goals intros))|fail "")
        all_goals first
          | (refine ⟨(k+1,true),?_,?_,?_⟩;rotate_left 2;(exact lessA_);(exact Z66_);(focus (exact ⟨hkn,fun _=>⟨hh,allTo_succ.2 ⟨ha,hq.2 ⟨by omega,by omega⟩⟩⟩,fun _=>rfl⟩)))
          | (refine ⟨(k+1,false),?_,?_,?_⟩;rotate_left 2;(exact lessA_);(exact Z66_);(exact Z26_))
    · have hkl:k=s.Skip.length:=by omega
      subst hkl
      cases ok
      · have hi:¬ spOk s:=fun h=>by have:=hi.2 ⟨⟨h.1.1,h.2.1⟩,h.2.2⟩;cases this
        (repeat' first|(refine go_ ?_;((repeat' first|exact True.intro|refine Two.mk ?_ ?_);all_goals intros))|fail "")
        all_goals exact ends_ (hr:=by rw [spFlt_f hi])
      · have hh:=hi.1 rfl
        (repeat' first|(refine s_dec (skipped_fn s _ hw) (ht:=?_) (hff:=?_) <;> intro _ <;> try (exfalso;omega))|(refine p_dec (skipped_fn s _ hw) (ht:=?_) (hff:=?_) <;> intro _ <;> try (exfalso;omega))|(refine go_ ?_;((repeat' first|exact True.intro|refine Two.mk ?_ ?_);all_goals intros))|fail "")
        all_goals first
          | exact ends_ (hr:=by rw [spFlt_t ⟨⟨hh.1.1,by assumption⟩,hh.1.2,hh.2⟩])
          | exact ends_ (hr:=by rw [spFlt_f (fun h=>absurd (by assumption) h.1.2)])
end Go.Proofs.YtendheafcbickaaGreat


set_option linter.unusedVariables false
set_option linter.unusedSimpArgs false
set_option linter.unusedVariables false
namespace Go.Proofs.YtendheafcbickaaGreat
set_option maxRecDepth 100000
attribute [local irreducible] Run RunL QStep GStep Fn Less
def gEnd:Bool→Int→List DPiece→Option Int
  | _,a,[]=>some a
  | f,a,p :: l=>if 0<p.Data.length∧a≤p.Off∧p.Off+p.Data.length≤4611686018427387903∧(f=true∨a<p.Off) then gEnd false (p.Off+p.Data.length) l else none
def gHead (g:DGather):Prop:=0≤g.Done ∧ -1≤g.Final∧g.Done≤g.Window∧g.Window≤4611686018427387903∧g.Held.length≤4
instance (g:DGather):Decidable (gHead g):=inferInstanceAs (Decidable (_∧_))
def gTail (g:DGather):Option Int→Bool
  | some a=>decide (a≤g.Window) && (decide (g.Final<0) || decide (a≤g.Final))
  | none=>false
def gatherFlt (g:DGather):Int:=if gHead g∧gTail g (gEnd true g.Done g.Held)=true then 0 else 9
theorem flt_head {g:DGather} (h:¬ gHead g):gatherFlt g=9:=if_neg (fun hh=>h hh.1)
theorem flt_tail {g:DGather} (h:gTail g (gEnd true g.Done g.Held)=false):gatherFlt g=9:=if_neg (fun hh=>by rw [h] at hh;exact Bool.false_ne_true hh.2)
theorem flt_ok {g:DGather} (h:gHead g) (h2:gTail g (gEnd true g.Done g.Held)=true):gatherFlt g=0:=if_pos ⟨h,h2⟩
def gInv (g:DGather) (x:Nat×Bool×Int):Prop:=
  x.1≤g.Held.length∧(x.2.1=false→gatherFlt g=9)∧(x.2.1=true→gHead g∧gEnd (decide (x.1=0)) x.2.2 (g.Held.drop x.1)=gEnd true g.Done g.Held)
set_option maxHeartbeats 1000000 in
theorem gatherCheck_fn (g:DGather) (hw:wfGather g):Fn Tryz.prog 120 [.agg (encGather g)] (.lit (.int .i64 (gatherFlt g))):=by
  have hlen:g.Held.length≤1000000000000000:=by have:=hw.2.1;omega
  have hD:I64 g.Done:=hw.1
  unfold I64 at hD
  refine fn_of_run (by kernel_rfl) Tryz.func120 rfl (by kernel_rfl) ?_
  refine r_seq ?_
  refine r_region ?_
  (repeat' first|(refine goS_ ?_;((repeat' first|exact True.intro|refine Two.mk ?_ ?_);all_goals intros))|fail "")
  refine thenQ_n ?_
  refine r_cut (fun ok:Bool=>⟨[(1,.ptr 0 0 0 0),(2,.lit (.int .i64 0)),(3,.lit (.bool ok))],[(0,some (.box 130 (encGather g)))],1,Tryz.f120.ntmps⟩) (fun ok=>(ok=true→gHead g)∧(ok=false→gatherFlt g=9)) ?_ ?_
  · (repeat' first|(refine go_ ?_;((repeat' first|exact True.intro|refine Two.mk ?_ ?_);all_goals intros))|fail "")
    all_goals first
      | exact ⟨true,⟨fun _=>(by unfold gHead;omega),fun h=>absurd h (by decide)⟩,less_to⟩
      | exact ⟨false,⟨fun h=>absurd h (by decide),fun _=>flt_head (by unfold gHead;omega)⟩,less_to⟩
  rintro ok ⟨hok1,hok2⟩
  (repeat' first|(refine go_ ?_;((repeat' first|exact True.intro|refine Two.mk ?_ ?_);all_goals intros))|fail "")
  refine r_for (fun x:Nat×Bool×Int=>⟨[(1,.ptr 0 0 0 0),(2,.lit (.int .i64 0)),(3,.lit (.bool x.2.1)),(4,.lit (.int .i64 x.2.2)),(36,.ro (g.Held.map encPiece)),(37,.lit (.int .i64 g.Held.length)),(38,.lit (.int .i64 x.1))],[(0,some (.box 130 (encGather g)))],1,Tryz.f120.ntmps⟩)
      (gInv g) (fun x=>g.Held.length - x.1) (0,ok,g.Done) ⟨Nat.zero_le _,hok2,fun h=>⟨hok1 h,rfl⟩⟩ less_to ?_
  rintro ⟨k,ok,a⟩ ⟨hk,hf,ht⟩
  dsimp only at hk hf ht ⊢
  by_cases hkn:k<g.Held.length
  · have hE:gEnd (decide (k=0)) a (g.Held.drop k)=if 0<(g.Held.getD k default).Data.length∧a≤(g.Held.getD k default).Off∧(g.Held.getD k default).Off+(g.Held.getD k default).Data.length≤4611686018427387903∧(k=0∨a<(g.Held.getD k default).Off) then gEnd false ((g.Held.getD k default).Off+(g.Held.getD k default).Data.length) (g.Held.drop (k+1)) else none:=by
      rw [drop_cons hkn];simp only [gEnd,decide_eq_true_eq]
    obtain ⟨hp1,hp2⟩:=hw.2.2.1 _ (getD_mem hkn)
    unfold I64 at hp1
    cases ok
    · have hf:=hf rfl
      (repeat' first|(refine go_ ?_;((repeat' first|exact True.intro|refine Two.mk ?_ ?_);all_goals intros))|fail "")
      all_goals exact ends_ (hr:=by rw [hf])
    · obtain ⟨hh,ht⟩:=ht rfl
      rw [hE] at ht
      have hg:=hh
      unfold gHead at hg
      (repeat' first|(refine go_ ?_;((repeat' first|exact True.intro|refine Two.mk ?_ ?_);all_goals intros))|fail "")
      all_goals first
        | (refine ends_ (hr:=?_);rw [flt_tail (by rw [← ht,if_neg (by omega)];rfl)])
        | (refine ⟨(k + 1, true, (g.Held.getD k default).Off + (g.Held.getD k default).Data.length), ?_, ?_, ?_⟩
           · dsimp only;omega
           · refine ⟨(by dsimp only;omega),(fun h=>by cases h),fun _=>⟨hh,?_⟩⟩
             rw [if_pos (by omega)] at ht;exact ht
           · exact less_to)
  · have hkl:k=g.Held.length:=by omega
    cases ok
    · have hf:=hf rfl
      (repeat' first|(refine go_ ?_;((repeat' first|exact True.intro|refine Two.mk ?_ ?_);all_goals intros))|fail "")
      all_goals exact ends_ (hr:=by rw [hf])
    · obtain ⟨hh,ht⟩:=ht rfl
      have hg:=hh
      unfold gHead at hg
      rw [hkl,List.drop_length] at ht
      (repeat' first|(refine go_ ?_;((repeat' first|exact True.intro|refine Two.mk ?_ ?_);all_goals intros))|fail "")
      all_goals first
        | (refine ends_ (hr:=?_);rw [flt_tail (by rw [← ht];simp [gEnd,gTail];omega)])
        | (refine ends_ (hr:=?_);rw [flt_ok hh (by rw [← ht];simp [gEnd,gTail];omega)])
        | fail "left"
end Go.Proofs.YtendheafcbickaaGreat
