/-
  SEVERAL TEXTS IN ONE: each with its own comment.
-/
import Derived.Test.YtendheafcbickaaGreatHZip
import Derived.Test.YtendheafcbickaaGreatHGo
import Derived.Test.YtendheafcbickaaGreatHMg07
import Derived.Test.YtendheafcbickaaGreatHMg06

set_option linter.unusedVariables false
set_option linter.unusedSimpArgs false
set_option linter.unusedVariables false
namespace Go.Proofs.YtendheafcbickaaGreat
set_option maxRecDepth 100000
attribute [local irreducible] Run RunL QStep GStep Fn Less PL
theorem rangesFaultRef_fn (l:List DRange) (hw:∀ y,y ∈ l→wfRange y) (hl:l.length * 16≤140737488355312):Fn Tryz.prog 253 [.ro (l.map encRange)] (.lit (.int .i64 (rFlt l))):=by
  refine fn_of_run (by kernel_rfl) Tryz.func253 rfl (by kernel_rfl) ?_
  (repeat' first|(refine go_ ?_;((repeat' first|exact True.intro|refine Two.mk ?_ ?_);all_goals intros))|fail "")
  refine r_for (fun k:Nat=>⟨[(0,.ro (l.map encRange)),(6,.ro (l.map encRange)),(7,.lit (.int .i64 l.length)),(8,.lit (.int .i64 k)),(3,.lit (.int .i64 (lastHi l k)))],[],0,Tryz.f253.ntmps⟩)
    (fun k=>k≤l.length∧(rSet (-2) l ↔ rSet (lastHi l k) (l.drop k)) ∧ -2≤lastHi l k∧lastHi l k≤4611686018427387903) (fun k=>l.length - k) 0 ⟨Nat.zero_le _,by simp [lastHi],by simp [lastHi],by simp [lastHi]⟩ less_to ?_
  rintro k ⟨hk,hi,hb1,hb2⟩
  by_cases hkn:k<l.length
  · have hd:=rSet_drop (a:=lastHi l k) hkn
    have hwk:=hw _ (getD_mem hkn)
    unfold wfRange I64 at hwk
    have hlast:lastHi l (k+1)=(l.getD k default).Hi:=by unfold lastHi;rw [if_neg (by omega),Nat.add_sub_cancel]
    (repeat' first|(refine s_dec (isRange_fn _) (ht:=?_) (hff:=?_) <;> intro _ <;> try (exfalso;omega))|(refine p_dec (isRange_fn _) (ht:=?_) (hff:=?_) <;> intro _ <;> try (exfalso;omega))|(refine go_ ?_;((repeat' first|exact True.intro|refine Two.mk ?_ ?_);all_goals intros))|fail "")
    all_goals first
      | (refine ends_ (hr:=?_);unfold rFlt;rw [if_neg (fun h=>?_)];have:=hd.1 (hi.1 h);unfold rGood at *;omega)
      | (refine ⟨k+1,?_,?_,?_⟩;rotate_left 2;(exact lessA_);(exact Z69_);(exact Z4_))
  · (repeat' first|(refine go_ ?_;((repeat' first|exact True.intro|refine Two.mk ?_ ?_);all_goals intros))|fail "")
    all_goals (refine ends_ (hr:=?_);unfold rFlt;rw [if_pos (hi.2 (by rw [List.drop_eq_nil_of_le (by omega)];trivial))])
end Go.Proofs.YtendheafcbickaaGreat


set_option linter.unusedVariables false
set_option linter.unusedSimpArgs false
set_option linter.unusedVariables false
namespace Go.Proofs.YtendheafcbickaaGreat
set_option maxRecDepth 100000
attribute [local irreducible] Run RunL QStep GStep Fn Less PL
set_option maxHeartbeats 2000000 in
theorem spaceFault_fn (s:DSpace) (hw:wfSpace s):Fn Tryz.prog 137 [.agg (encSpace s)] (.lit (.int .i64 (spFlt s))):=by
  have l1:s.Sent.length≤1000000000000000:=by have:=hw.2.1;omega
  have l2:s.Skip.length≤1000000000000000:=by have:=hw.2.2.2.2.2.2.1;omega
  have l3:s.Heard.length≤1000000000000000:=by have:=hw.2.2.2.2.1;omega
  have h1:=rangesFaultRef_fn s.Heard hw.2.2.2.2.2.1 (by have:=hw.2.2.2.2.1;omega)
  have h2:=fun n=>isIn_fn s.Skip n hw.2.2.2.2.2.2.1
  refine fn_of_run (by kernel_rfl) Tryz.func137 rfl (by kernel_rfl) ?_
  refine r_seq ?_
  refine r_region ?_
  (repeat' first|(refine goS_ ?_;((repeat' first|exact True.intro|refine Two.mk ?_ ?_);all_goals intros))|fail "")
  refine thenQ_n ?_
  refine r_cut (fun ok:Bool=>⟨[(1,.ptr 0 0 0 0),(2,.lit (.int .i64 0)),(3,.lit (.bool ok))],[(0,some (.box 43 (encSpace s)))],1,Tryz.f137.ntmps⟩) (fun ok=>ok=true ↔ spHead s ∧ ¬ s.Top ∈ s.Skip) ?_ ?_
  · (repeat' first|(refine s_dec (upTo_fn _ _) (ht:=?_) (hff:=?_) <;> intro _ <;> try (exfalso;omega))|(refine p_dec (upTo_fn _ _) (ht:=?_) (hff:=?_) <;> intro _ <;> try (exfalso;omega))|(refine s_call (h1) (h:=?_))|(refine p_call (h1) (h:=?_))|(refine s_dec (h2 _) (ht:=?_) (hff:=?_) <;> intro _ <;> try (exfalso;omega))|(refine p_dec (h2 _) (ht:=?_) (hff:=?_) <;> intro _ <;> try (exfalso;omega))|(refine go_ ?_;((repeat' first|exact True.intro|refine Two.mk ?_ ?_);all_goals intros))|fail "")
    all_goals first
      | (refine ⟨true,?_,?_⟩;rotate_left 1;(exact lessA_);(focus (exact ⟨fun _=>⟨(by unfold spHead;omega),by assumption⟩,fun _=>rfl⟩)))
      | (refine ⟨false,?_,?_⟩;rotate_left 1;(exact lessA_);(focus (exact ⟨(fun h=>by cases h),fun h=>(by obtain ⟨h,h3⟩:=h;unfold spHead at h;first|(exfalso;omega)|exact absurd (by assumption) h3)⟩)))
  rintro ok hok
  (repeat' first|(refine go_ ?_;((repeat' first|exact True.intro|refine Two.mk ?_ ?_);all_goals intros))|fail "")
  refine r_for (fun x:Nat×Bool=>⟨[(1,.ptr 0 0 0 0),(2,.lit (.int .i64 0)),(3,.lit (.bool x.2)),(56,.ro (s.Sent.map encParcel)),(57,.lit (.int .i64 s.Sent.length)),(58,.lit (.int .i64 x.1))],[(0,some (.box 43 (encSpace s)))],1,Tryz.f137.ntmps⟩)
      (fun x=>x.1≤s.Sent.length∧(x.2=true ↔ (spHead s ∧ ¬ s.Top ∈ s.Skip)∧AllTo (sentQ s) x.1)) (fun x=>s.Sent.length - x.1) (0,ok) ⟨Nat.zero_le _,by rw [hok];exact ⟨fun h=>⟨h,allTo0⟩,fun h=>h.1⟩⟩ less_to ?_
  rintro ⟨k,ok⟩ ⟨hk,hi⟩
  dsimp only at hk hi ⊢
  by_cases hkn:k<s.Sent.length
  · cases ok
    · have hi:¬ ((spHead s ∧ ¬ s.Top ∈ s.Skip)∧AllTo (sentQ s) k):=fun h=>by have:=hi.2 h;cases this
      (repeat' first|(refine go_ ?_;((repeat' first|exact True.intro|refine Two.mk ?_ ?_);all_goals intros))|fail "")
      all_goals (refine ⟨(k+1,false),?_,?_,?_⟩;rotate_left 2;(exact lessA_);(exact Z66_);(exact Z40_))
    · obtain ⟨hh,ha⟩:=hi.1 rfl
      have hh':=hh.1
      unfold spHead at hh'
      have hq:sentQ s k ↔ sentQ s k:=Iff.rfl
      conv at hq=>rhs;unfold sentQ
      by_cases hk0:k=0
      · (repeat' first|(refine s_dec (upTo_fn _ _) (ht:=?_) (hff:=?_) <;> intro _ <;> try (exfalso;omega))|(refine p_dec (upTo_fn _ _) (ht:=?_) (hff:=?_) <;> intro _ <;> try (exfalso;omega))|(refine s_dec (h2 _) (ht:=?_) (hff:=?_) <;> intro _ <;> try (exfalso;omega))|(refine p_dec (h2 _) (ht:=?_) (hff:=?_) <;> intro _ <;> try (exfalso;omega))|(refine go_ ?_;((repeat' first|exact True.intro|refine Two.mk ?_ ?_);all_goals intros))|fail "")
        all_goals first
          | (refine ⟨(k+1,true),?_,?_,?_⟩;rotate_left 2;(exact lessA_);(exact Z66_);(exact Z8_))
          | (refine ⟨(k+1,false),?_,?_,?_⟩;rotate_left 2;(exact lessA_);(exact Z66_);(exact Z5_))
      · (repeat' first|(refine s_dec (upTo_fn _ _) (ht:=?_) (hff:=?_) <;> intro _ <;> try (exfalso;omega))|(refine p_dec (upTo_fn _ _) (ht:=?_) (hff:=?_) <;> intro _ <;> try (exfalso;omega))|(refine s_dec (h2 _) (ht:=?_) (hff:=?_) <;> intro _ <;> try (exfalso;omega))|(refine p_dec (h2 _) (ht:=?_) (hff:=?_) <;> intro _ <;> try (exfalso;omega))|(refine go_ ?_;((repeat' first|exact True.intro|refine Two.mk ?_ ?_);all_goals intros))|fail "")
        all_goals first
          | (refine ⟨(k+1,true),?_,?_,?_⟩;rotate_left 2;(exact lessA_);(exact Z66_);(exact Z8_))
          | (refine ⟨(k+1,false),?_,?_,?_⟩;rotate_left 2;(exact lessA_);(exact Z66_);(exact Z5_))
  · have hkl:k=s.Sent.length:=by omega
    subst hkl
    (repeat' first|(refine go_ ?_;((repeat' first|exact True.intro|refine Two.mk ?_ ?_);all_goals intros))|fail "")
    refine r_for (fun x:Nat×Bool=>⟨[(1,.ptr 0 0 0 0),(2,.lit (.int .i64 0)),(3,.lit (.bool x.2)),(108,.ro (s.Skip.map encI)),(109,.lit (.int .i64 s.Skip.length)),(110,.lit (.int .i64 x.1))],[(0,some (.box 43 (encSpace s)))],1,Tryz.f137.ntmps⟩)
      (fun x=>x.1≤s.Skip.length∧(x.2=true ↔ ((spHead s ∧ ¬ s.Top ∈ s.Skip)∧AllTo (sentQ s) s.Sent.length)∧AllTo (skipQ s) x.1)) (fun x=>s.Skip.length - x.1) (0,ok) ⟨Nat.zero_le _,by rw [hi];exact ⟨fun h=>⟨h,allTo0⟩,fun h=>h.1⟩⟩ less_to ?_
    rintro ⟨k,ok⟩ ⟨hk,hi⟩
    dsimp only at hk hi ⊢
    by_cases hkn:k<s.Skip.length
    · cases ok
      · have hi:¬ (((spHead s ∧ ¬ s.Top ∈ s.Skip)∧AllTo (sentQ s) s.Sent.length)∧AllTo (skipQ s) k):=fun h=>by have:=hi.2 h;cases this
        (repeat' first|(refine go_ ?_;((repeat' first|exact True.intro|refine Two.mk ?_ ?_);all_goals intros))|fail "")
        all_goals (refine ⟨(k+1,false),?_,?_,?_⟩;rotate_left 2;(exact lessA_);(exact Z66_);(exact Z40_))
      · obtain ⟨hh,ha⟩:=hi.1 rfl
        have hh':=hh.1.1
        unfold spHead at hh'
        have hq:skipQ s k ↔ skipQ s k:=Iff.rfl
        conv at hq=>rhs;unfold skipQ
        by_cases hk0:k=0
        · (repeat' first|(refine s_dec (upTo_fn _ _) (ht:=?_) (hff:=?_) <;> intro _ <;> try (exfalso;omega))|(refine p_dec (upTo_fn _ _) (ht:=?_) (hff:=?_) <;> intro _ <;> try (exfalso;omega))|(refine go_ ?_;((repeat' first|exact True.intro|refine Two.mk ?_ ?_);all_goals intros))|fail "")
          all_goals first
            | (refine ⟨(k+1,true),?_,?_,?_⟩;rotate_left 2;(exact lessA_);(exact Z66_);(exact Z27_))
            | (refine ⟨(k+1,false),?_,?_,?_⟩;rotate_left 2;(exact lessA_);(exact Z66_);(exact Z26_))
        · (repeat' first|(refine s_dec (upTo_fn _ _) (ht:=?_) (hff:=?_) <;> intro _ <;> try (exfalso;omega))|(refine p_dec (upTo_fn _ _) (ht:=?_) (hff:=?_) <;> intro _ <;> try (exfalso;omega))|(refine go_ ?_;((repeat' first|exact True.intro|refine Two.mk ?_ ?_);all_goals intros))|fail "")
          all_goals first
            | (refine ⟨(k+1,true),?_,?_,?_⟩;rotate_left 2;(exact lessA_);(exact Z66_);(exact Z27_))
            | (refine ⟨(k+1,false),?_,?_,?_⟩;rotate_left 2;(exact lessA_);(exact Z66_);(exact Z26_))
    · have hkl:k=s.Skip.length:=by omega
      subst hkl
      cases ok
      · have hi:¬ spOk s:=fun h=>by have:=hi.2 ⟨⟨h.1,h.2.1⟩,h.2.2⟩;cases this
        (repeat' first|(refine go_ ?_;((repeat' first|exact True.intro|refine Two.mk ?_ ?_);all_goals intros))|fail "")
        all_goals exact ends_ (hr:=by rw [spFlt_f hi])
      · have hh:=hi.1 rfl
        (repeat' first|(refine go_ ?_;((repeat' first|exact True.intro|refine Two.mk ?_ ?_);all_goals intros))|fail "")
        all_goals exact ends_ (hr:=by rw [spFlt_t ⟨hh.1.1,hh.1.2,hh.2⟩])
end Go.Proofs.YtendheafcbickaaGreat


set_option linter.unusedVariables false
set_option linter.unusedSimpArgs false
set_option linter.unusedVariables false
namespace Go.Proofs.YtendheafcbickaaGreat
set_option maxRecDepth 100000
attribute [local irreducible] Run RunL QStep GStep Fn Less PL
theorem sameGather_fn (g h:DGather) (hg:wfGather g) (hh:wfGather h):Fn Tryz.prog 74 [.agg (encGather g),.agg (encGather h)] (.lit (.bool (yes (g=h)))):=by
  have l1:g.Held.length≤1000000000000000:=by have:=hg.2.1;omega
  have l2:h.Held.length≤1000000000000000:=by have:=hh.2.1;omega
  refine fn_of_run (by kernel_rfl) Tryz.func74 rfl (by kernel_rfl) ?_
  refine r_seq ?_
  refine r_region ?_
  (repeat' first|(refine goS_ ?_;((repeat' first|exact True.intro|refine Two.mk ?_ ?_);all_goals intros))|fail "")
  refine thenQ_n ?_
  refine r_cut (fun ok:Bool=>⟨[(2,.ptr 0 0 0 0),(3,.ptr 1 0 0 0),(4,.lit (.bool false)),(5,.lit (.bool ok))],[(0,some (.box 130 (encGather g))),(1,some (.box 130 (encGather h)))],2,Tryz.f74.ntmps⟩) (fun ok=>ok=true ↔ (g.Done=h.Done∧g.Final=h.Final∧g.Window=h.Window∧g.Held.length=h.Held.length)) ?_ ?_
  · (repeat' first|(refine go_ ?_;((repeat' first|exact True.intro|refine Two.mk ?_ ?_);all_goals intros))|fail "")
    all_goals first
      | exact ⟨true,⟨fun _=>(by omega),fun _=>rfl⟩,less_to⟩
      | exact ⟨false,⟨fun h=>(by cases h),fun h=>(by omega)⟩,less_to⟩
  rintro ok hok
  refine r_seq ?_
  (repeat' first|(refine go_ ?_;((repeat' first|exact True.intro|refine Two.mk ?_ ?_);all_goals intros))|fail "")
  refine r_for (fun x:Nat×Bool=>⟨[(2,.ptr 0 0 0 0),(3,.ptr 1 0 0 0),(4,.lit (.bool false)),(5,.lit (.bool x.2)),(6,.lit (.int .i64 x.1))],[(0,some (.box 130 (encGather g))),(1,some (.box 130 (encGather h)))],2,Tryz.f74.ntmps⟩)
      (fun x=>(x.2=true→g.Done=h.Done∧g.Final=h.Final∧g.Window=h.Window)∧Along g.Held h.Held (g=h) x.1 x.2) (fun x=>g.Held.length - x.1) (0,ok) ⟨fun h=>?_,Nat.zero_le _,fun h=>⟨?_,rfl⟩,fun h e=>?_⟩ less_to ?_
  · have:=hok.1 h;omega
  · have:=hok.1 h;omega
  · have:=hok.2 (by rw [e];exact ⟨rfl,rfl,rfl,rfl⟩);rw [show ok=false from h] at this;cases this
  rintro ⟨k,ok⟩ ⟨hq,hk,hs,hn⟩
  dsimp only at hk hq hs hn ⊢
  cases ok
  · have hn:=hn rfl
    (repeat' first|(refine go_ ?_;((repeat' first|exact True.intro|refine Two.mk ?_ ?_);all_goals intros))|fail "")
    all_goals (refine ends_ (hr:=?_);exact noV hn)
  · obtain ⟨hl,ht⟩:=hs rfl
    have hq:=hq rfl
    by_cases hkn:k<g.Held.length
    · (repeat' first|(refine s_yes (sameBytes_fn _ _) (ht:=?_) (hff:=?_) <;> intro _ <;> try (exfalso;omega))|(refine p_yes (sameBytes_fn _ _) (ht:=?_) (hff:=?_) <;> intro _ <;> try (exfalso;omega))|(refine go_ ?_;((repeat' first|exact True.intro|refine Two.mk ?_ ?_);all_goals intros))|fail "")
      all_goals first
        | (refine ⟨(k+1,true),?_,?_,?_⟩;rotate_left 2;(exact lessA_);(exact Z66_);(focus (refine ⟨fun _=>hq,(by dsimp only;omega),fun _=>⟨hl,take_same hkn (by omega) ht ?_⟩,fun h=>(by cases h)⟩;exact ext_Piece (by assumption) (by assumption))))
        | (refine ⟨(k+1,false),?_,?_,?_⟩;rotate_left 2;(exact lessA_);(exact Z66_);(focus (refine ⟨fun h=>(by cases h),(by dsimp only;omega),fun h=>(by cases h),fun _ e=>?_⟩;subst e;first|contradiction|omega|(simp_all;done))))
    · (repeat' first|(refine go_ ?_;((repeat' first|exact True.intro|refine Two.mk ?_ ?_);all_goals intros))|fail "")
      all_goals (refine ends_ (hr:=?_))
      refine yesV ?_
      have:=take_all (by omega) (by omega) ht
      cases g;cases h;simp_all
def gHead' (g:DGather):Prop:=0≤g.Done ∧ -1≤g.Final∧0≤g.Window∧g.Window≤4611686018427387903∧g.Held.length≤4
theorem gEnd_ge:∀ (l:List DPiece) (f:Bool) (a b:Int),gEnd f a l=some b→a≤b
  | [],f,a,b,h=>by simp only [gEnd,Option.some.injEq] at h;omega
  | p :: l,f,a,b,h=>by
    simp only [gEnd] at h
    split at h
    · have:=gEnd_ge l _ _ _ h;omega
    · cases h
theorem tail_ge {g:DGather} (h:gTail g (gEnd true g.Done g.Held)=true):g.Done≤g.Window:=by
  cases he:gEnd true g.Done g.Held with
  | none=>rw [he] at h;cases h
  | some b=>
    rw [he] at h
    have:=gEnd_ge _ _ _ _ he
    simp only [gTail,Bool.and_eq_true,decide_eq_true_eq] at h
    omega
theorem flt_head' {g:DGather} (h:¬ gHead' g):gatherFlt g=9:=flt_head (fun hh=>h (by unfold gHead at hh;unfold gHead';omega))
theorem flt_ok' {g:DGather} (h:gHead' g) (h2:gTail g (gEnd true g.Done g.Held)=true):gatherFlt g=0:=flt_ok (by have:=tail_ge h2;unfold gHead' at h;unfold gHead;omega) h2
def gInv' (g:DGather) (x:Nat×Bool×Int):Prop:=
  x.1≤g.Held.length∧(x.2.1=false→gatherFlt g=9)∧(x.2.1=true→gHead' g∧0≤x.2.2∧gEnd (decide (x.1=0)) x.2.2 (g.Held.drop x.1)=gEnd true g.Done g.Held)
set_option maxHeartbeats 1000000 in
theorem gatherFault_fn (g:DGather) (hw:wfGather g):Fn Tryz.prog 140 [.agg (encGather g)] (.lit (.int .i64 (gatherFlt g))):=by
  have hlen:g.Held.length≤1000000000000000:=by have:=hw.2.1;omega
  have hD:I64 g.Done:=hw.1
  unfold I64 at hD
  refine fn_of_run (by kernel_rfl) Tryz.func140 rfl (by kernel_rfl) ?_
  refine r_seq ?_
  refine r_region ?_
  (repeat' first|(refine goS_ ?_;((repeat' first|exact True.intro|refine Two.mk ?_ ?_);all_goals intros))|fail "")
  refine thenQ_n ?_
  refine r_cut (fun ok:Bool=>⟨[(1,.ptr 0 0 0 0),(2,.lit (.int .i64 0)),(3,.lit (.bool ok))],[(0,some (.box 130 (encGather g)))],1,Tryz.f140.ntmps⟩) (fun ok=>(ok=true→gHead' g)∧(ok=false→gatherFlt g=9)) ?_ ?_
  · (repeat' first|(refine s_dec (upTo_fn _ _) (ht:=?_) (hff:=?_) <;> intro _ <;> try (exfalso;omega))|(refine p_dec (upTo_fn _ _) (ht:=?_) (hff:=?_) <;> intro _ <;> try (exfalso;omega))|(refine go_ ?_;((repeat' first|exact True.intro|refine Two.mk ?_ ?_);all_goals intros))|fail "")
    all_goals first
      | (refine ⟨true,?_,?_⟩;rotate_left 1;(exact lessA_);(focus (exact ⟨fun _=>(by unfold gHead';omega),fun h=>by cases h⟩)))
      | (refine ⟨false,?_,?_⟩;rotate_left 1;(exact lessA_);(focus (exact ⟨(fun h=>by cases h),fun _=>flt_head' (by unfold gHead';omega)⟩)))
  rintro ok ⟨hok1,hok2⟩
  (repeat' first|(refine go_ ?_;((repeat' first|exact True.intro|refine Two.mk ?_ ?_);all_goals intros))|fail "")
  refine r_for (fun x:Nat×Bool×Int=>⟨[(1,.ptr 0 0 0 0),(2,.lit (.int .i64 0)),(3,.lit (.bool x.2.1)),(4,.lit (.int .i64 x.2.2)),(5,.lit (.int .i64 x.1))],[(0,some (.box 130 (encGather g)))],1,Tryz.f140.ntmps⟩)
      (gInv' g) (fun x=>g.Held.length - x.1) (0,ok,g.Done) ⟨Nat.zero_le _,hok2,fun h=>⟨hok1 h,(hok1 h).1,rfl⟩⟩ less_to ?_
  rintro ⟨k,ok,a⟩ ⟨hk,hf,ht⟩
  dsimp only at hk hf ht ⊢
  have hA:a≤9223372036854775807∨a > 9223372036854775807:=by omega
  cases ok
  · have hf:=hf rfl
    (repeat' first|(refine go_ ?_;((repeat' first|exact True.intro|refine Two.mk ?_ ?_);all_goals intros))|fail "")
    all_goals exact ends_ (hr:=by rw [hf])
  obtain ⟨hh,h0,ht⟩:=ht rfl
  have hg:=hh
  unfold gHead' at hg
  by_cases hkn:k<g.Held.length
  · have hE:gEnd (decide (k=0)) a (g.Held.drop k)=if 0<(g.Held.getD k default).Data.length∧a≤(g.Held.getD k default).Off∧(g.Held.getD k default).Off+(g.Held.getD k default).Data.length≤4611686018427387903∧(k=0∨a<(g.Held.getD k default).Off) then gEnd false ((g.Held.getD k default).Off+(g.Held.getD k default).Data.length) (g.Held.drop (k+1)) else none:=by
      rw [drop_cons hkn];simp only [gEnd,decide_eq_true_eq]
    obtain ⟨hp1,hp2⟩:=hw.2.2.1 _ (getD_mem hkn)
    unfold I64 at hp1
    rw [hE] at ht
    (repeat' first|(refine s_dec (upTo_fn _ _) (ht:=?_) (hff:=?_) <;> intro _ <;> try (exfalso;omega))|(refine p_dec (upTo_fn _ _) (ht:=?_) (hff:=?_) <;> intro _ <;> try (exfalso;omega))|(refine go_ ?_;((repeat' first|exact True.intro|refine Two.mk ?_ ?_);all_goals intros))|fail "")
    all_goals first
      | (refine ⟨(k+1,true,(g.Held.getD k default).Off+(g.Held.getD k default).Data.length),?_,?_,?_⟩;rotate_left 2;(exact lessA_);(exact Z66_);(focus (refine ⟨(by dsimp only;omega),(fun h=>by cases h),fun _=>⟨hh,(by dsimp only;omega),?_⟩⟩;rw [if_pos (by omega)] at ht;exact ht)))
      | (refine ⟨(k+1,false,IntKind.i64.wrap ((g.Held.getD k default).Off+(g.Held.getD k default).Data.length)),?_,?_,?_⟩;rotate_left 2;(exact lessA_);(exact Z66_);(exact Z20_))
      | (refine ⟨(k+1,false,(g.Held.getD k default).Off+(g.Held.getD k default).Data.length),?_,?_,?_⟩;rotate_left 2;(exact lessA_);(exact Z66_);(exact Z20_))
      | trace_state
  · have hkl:k=g.Held.length:=by omega
    rw [hkl,List.drop_length] at ht
    (repeat' first|(refine go_ ?_;((repeat' first|exact True.intro|refine Two.mk ?_ ?_);all_goals intros))|fail "")
    all_goals first
      | (refine ends_ (hr:=?_);rw [flt_tail (by rw [← ht];simp [gEnd,gTail];omega)])
      | (refine ends_ (hr:=?_);rw [flt_ok' hh (by rw [← ht];simp [gEnd,gTail];omega)])
end Go.Proofs.YtendheafcbickaaGreat
