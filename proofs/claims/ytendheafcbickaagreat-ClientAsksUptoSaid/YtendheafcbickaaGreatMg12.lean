/-
  SEVERAL TEXTS IN ONE: each with its own comment.
-/
import Derived.Test.YtendheafcbickaaGreatZip
import Derived.Test.YtendheafcbickaaGreatGo
import Derived.Test.YtendheafcbickaaGreatMg08
import Derived.Test.YtendheafcbickaaGreatMg11
import Derived.Test.YtendheafcbickaaGreatMg07
import Derived.Test.YtendheafcbickaaGreatEnc

set_option linter.unusedVariables false
set_option linter.unusedSimpArgs false
set_option linter.unusedVariables false
namespace Go.Proofs.YtendheafcbickaaGreat
set_option maxRecDepth 100000
attribute [local irreducible] Run RunL QStep GStep Fn Less PL
set_option maxHeartbeats 2000000 in
theorem spaceFault_fn (s:DSpace) (hw:wfSpace s):Fn Tryz.prog 137 [.agg (encSpace s)] (.lit (.int .i64 (spFlt s))):=by
  have l1:s.Sent.length≤1000000000000000:=by have:=hw.2.1;omega
  have l2:s.Skip.length≤1000000000000000:=by have:=hw.2.2.2.2.2.2.1;omega
  have l3:s.Heard.length≤1000000000000000:=by have:=hw.2.2.2.2.1;omega
  have h1:=rangesFaultRef_fn s.Heard hw.2.2.2.2.2.1 (by have:=hw.2.2.2.2.1;omega)
  have h2:=fun n=>isIn_fn s.Skip n hw.2.2.2.2.2.2.1
  refine fn_of_run (by kernel_rfl) Tryz.func137 rfl (by kernel_rfl) ?_
  refine r_seq ?_
  refine r_region ?_
  (repeat' first|(refine goS_ ?_;((repeat' first|exact True.intro|refine Two.mk ?_ ?_);all_goals intros))|fail "")
  refine thenQ_n ?_
  refine r_cut (fun ok:Bool=>⟨[(1,.ptr 0 0 0 0),(2,.lit (.int .i64 0)),(3,.lit (.bool ok))],[(0,some (.box 43 (encSpace s)))],1,Tryz.f137.ntmps⟩) (fun ok=>ok=true ↔ spHead s ∧ ¬ s.Top ∈ s.Skip) ?_ ?_
  · (repeat' first|(refine s_dec (upTo_fn _ _) (ht:=?_) (hff:=?_) <;> intro _ <;> try (exfalso;omega))|(refine p_dec (upTo_fn _ _) (ht:=?_) (hff:=?_) <;> intro _ <;> try (exfalso;omega))|(refine s_call (h1) (h:=?_))|(refine p_call (h1) (h:=?_))|(refine s_dec (h2 _) (ht:=?_) (hff:=?_) <;> intro _ <;> try (exfalso;omega))|(refine p_dec (h2 _) (ht:=?_) (hff:=?_) <;> intro _ <;> try (exfalso;omega))|(refine go_ ?_;((repeat' first|exact True.intro|refine Two.mk ?_ ?_);all_goals intros))|fail "")
    all_goals first
      | (refine ⟨true,?_,?_⟩;rotate_left 1;(exact lessA_);(focus (exact ⟨fun _=>⟨(by unfold spHead;omega),by assumption⟩,fun _=>rfl⟩)))
      | (refine ⟨false,?_,?_⟩;rotate_left 1;(exact lessA_);(focus (exact ⟨(fun h=>by cases h),fun h=>(by obtain ⟨h,h3⟩:=h;unfold spHead at h;first|(exfalso;omega)|exact absurd (by assumption) h3)⟩)))
  rintro ok hok
  (repeat' first|(refine go_ ?_;((repeat' first|exact True.intro|refine Two.mk ?_ ?_);all_goals intros))|fail "")
  refine r_for (fun x:Nat×Bool=>⟨[(1,.ptr 0 0 0 0),(2,.lit (.int .i64 0)),(3,.lit (.bool x.2)),(56,.ro (s.Sent.map encParcel)),(57,.lit (.int .i64 s.Sent.length)),(58,.lit (.int .i64 x.1))],[(0,some (.box 43 (encSpace s)))],1,Tryz.f137.ntmps⟩)
      (fun x=>x.1≤s.Sent.length∧(x.2=true ↔ (spHead s ∧ ¬ s.Top ∈ s.Skip)∧AllTo (sentQ s) x.1)) (fun x=>s.Sent.length - x.1) (0,ok) ⟨Nat.zero_le _,by rw [hok];exact ⟨fun h=>⟨h,allTo0⟩,fun h=>h.1⟩⟩ less_to ?_
  rintro ⟨k,ok⟩ ⟨hk,hi⟩
  dsimp only at hk hi ⊢
  by_cases hkn:k<s.Sent.length
  · cases ok
    · have hi:¬ ((spHead s ∧ ¬ s.Top ∈ s.Skip)∧AllTo (sentQ s) k):=fun h=>by have:=hi.2 h;cases this
      (repeat' first|(refine go_ ?_;((repeat' first|exact True.intro|refine Two.mk ?_ ?_);all_goals intros))|fail "")
      all_goals (refine ⟨(k+1,false),?_,?_,?_⟩;rotate_left 2;(exact lessA_);(exact Z66_);(exact Z36_))
    · obtain ⟨hh,ha⟩:=hi.1 rfl
      have hh':=hh.1
      unfold spHead at hh'
      have hq:sentQ s k ↔ sentQ s k:=Iff.rfl
      conv at hq=>rhs;unfold sentQ
      by_cases hk0:k=0
      · (repeat' first|(refine s_dec (upTo_fn _ _) (ht:=?_) (hff:=?_) <;> intro _ <;> try (exfalso;omega))|(refine p_dec (upTo_fn _ _) (ht:=?_) (hff:=?_) <;> intro _ <;> try (exfalso;omega))|(refine s_dec (h2 _) (ht:=?_) (hff:=?_) <;> intro _ <;> try (exfalso;omega))|(refine p_dec (h2 _) (ht:=?_) (hff:=?_) <;> intro _ <;> try (exfalso;omega))|(refine go_ ?_;((repeat' first|exact True.intro|refine Two.mk ?_ ?_);all_goals intros))|fail "")
        all_goals first
          | (refine ⟨(k+1,true),?_,?_,?_⟩;rotate_left 2;(exact lessA_);(exact Z66_);(exact Z6_))
          | (refine ⟨(k+1,false),?_,?_,?_⟩;rotate_left 2;(exact lessA_);(exact Z66_);(exact Z4_))
      · (repeat' first|(refine s_dec (upTo_fn _ _) (ht:=?_) (hff:=?_) <;> intro _ <;> try (exfalso;omega))|(refine p_dec (upTo_fn _ _) (ht:=?_) (hff:=?_) <;> intro _ <;> try (exfalso;omega))|(refine s_dec (h2 _) (ht:=?_) (hff:=?_) <;> intro _ <;> try (exfalso;omega))|(refine p_dec (h2 _) (ht:=?_) (hff:=?_) <;> intro _ <;> try (exfalso;omega))|(refine go_ ?_;((repeat' first|exact True.intro|refine Two.mk ?_ ?_);all_goals intros))|fail "")
        all_goals first
          | (refine ⟨(k+1,true),?_,?_,?_⟩;rotate_left 2;(exact lessA_);(exact Z66_);(exact Z6_))
          | (refine ⟨(k+1,false),?_,?_,?_⟩;rotate_left 2;(exact lessA_);(exact Z66_);(exact Z4_))
  · have hkl:k=s.Sent.length:=by omega
    subst hkl
    (repeat' first|(refine go_ ?_;((repeat' first|exact True.intro|refine Two.mk ?_ ?_);all_goals intros))|fail "")
    refine r_for (fun x:Nat×Bool=>⟨[(1,.ptr 0 0 0 0),(2,.lit (.int .i64 0)),(3,.lit (.bool x.2)),(108,.ro (s.Skip.map encI)),(109,.lit (.int .i64 s.Skip.length)),(110,.lit (.int .i64 x.1))],[(0,some (.box 43 (encSpace s)))],1,Tryz.f137.ntmps⟩)
      (fun x=>x.1≤s.Skip.length∧(x.2=true ↔ ((spHead s ∧ ¬ s.Top ∈ s.Skip)∧AllTo (sentQ s) s.Sent.length)∧AllTo (skipQ s) x.1)) (fun x=>s.Skip.length - x.1) (0,ok) ⟨Nat.zero_le _,by rw [hi];exact ⟨fun h=>⟨h,allTo0⟩,fun h=>h.1⟩⟩ less_to ?_
    rintro ⟨k,ok⟩ ⟨hk,hi⟩
    dsimp only at hk hi ⊢
    by_cases hkn:k<s.Skip.length
    · cases ok
      · have hi:¬ (((spHead s ∧ ¬ s.Top ∈ s.Skip)∧AllTo (sentQ s) s.Sent.length)∧AllTo (skipQ s) k):=fun h=>by have:=hi.2 h;cases this
        (repeat' first|(refine go_ ?_;((repeat' first|exact True.intro|refine Two.mk ?_ ?_);all_goals intros))|fail "")
        all_goals (refine ⟨(k+1,false),?_,?_,?_⟩;rotate_left 2;(exact lessA_);(exact Z66_);(exact Z36_))
      · obtain ⟨hh,ha⟩:=hi.1 rfl
        have hh':=hh.1.1
        unfold spHead at hh'
        have hq:skipQ s k ↔ skipQ s k:=Iff.rfl
        conv at hq=>rhs;unfold skipQ
        by_cases hk0:k=0
        · (repeat' first|(refine s_dec (upTo_fn _ _) (ht:=?_) (hff:=?_) <;> intro _ <;> try (exfalso;omega))|(refine p_dec (upTo_fn _ _) (ht:=?_) (hff:=?_) <;> intro _ <;> try (exfalso;omega))|(refine go_ ?_;((repeat' first|exact True.intro|refine Two.mk ?_ ?_);all_goals intros))|fail "")
          all_goals first
            | (refine ⟨(k+1,true),?_,?_,?_⟩;rotate_left 2;(exact lessA_);(exact Z66_);(exact Z25_))
            | (refine ⟨(k+1,false),?_,?_,?_⟩;rotate_left 2;(exact lessA_);(exact Z66_);(exact Z24_))
        · (repeat' first|(refine s_dec (upTo_fn _ _) (ht:=?_) (hff:=?_) <;> intro _ <;> try (exfalso;omega))|(refine p_dec (upTo_fn _ _) (ht:=?_) (hff:=?_) <;> intro _ <;> try (exfalso;omega))|(refine go_ ?_;((repeat' first|exact True.intro|refine Two.mk ?_ ?_);all_goals intros))|fail "")
          all_goals first
            | (refine ⟨(k+1,true),?_,?_,?_⟩;rotate_left 2;(exact lessA_);(exact Z66_);(exact Z25_))
            | (refine ⟨(k+1,false),?_,?_,?_⟩;rotate_left 2;(exact lessA_);(exact Z66_);(exact Z24_))
    · have hkl:k=s.Skip.length:=by omega
      subst hkl
      cases ok
      · have hi:¬ spOk s:=fun h=>by have:=hi.2 ⟨⟨h.1,h.2.1⟩,h.2.2⟩;cases this
        (repeat' first|(refine go_ ?_;((repeat' first|exact True.intro|refine Two.mk ?_ ?_);all_goals intros))|fail "")
        all_goals exact ends_ (hr:=by rw [spFlt_f hi])
      · have hh:=hi.1 rfl
        (repeat' first|(refine go_ ?_;((repeat' first|exact True.intro|refine Two.mk ?_ ?_);all_goals intros))|fail "")
        all_goals exact ends_ (hr:=by rw [spFlt_t ⟨hh.1.1,hh.1.2,hh.2⟩])
end Go.Proofs.YtendheafcbickaaGreat


set_option linter.unusedVariables false
set_option linter.unusedSimpArgs false
set_option linter.unusedVariables false
namespace Go.Proofs.YtendheafcbickaaGreat
set_option maxRecDepth 100000
attribute [local irreducible] Run RunL QStep GStep Fn Less PL
theorem gatherBegin_fn (n:Int):Fn Tryz.prog 236 [.lit (.int .i64 n)] (.tup [.agg (if n<0∨4611686018427387903<n then [.lit (.int .i64 0),.lit (.slice none 0 0),.lit (.int .i64 0),.lit (.int .i64 0)] else [.lit (.int .i64 0),.lit (.slice none 0 0),.lit (.int .i64 (-1)),.lit (.int .i64 n)]),.lit (.int .i64 (if n<0∨4611686018427387903<n then 6 else 0))]):=by
  refine fn_of_run (by kernel_rfl) Tryz.func236 rfl (by kernel_rfl) ?_
  (repeat' first|(refine go_ ?_;((repeat' first|exact True.intro|refine Two.mk ?_ ?_);all_goals intros))|fail "")
  all_goals refine ends_ (hr:=?_)
  · rw [if_pos (by omega),if_pos (by omega)]
  · rw [if_pos (by omega),if_pos (by omega)]
  · rw [if_neg (by omega),if_neg (by omega)]
theorem sameGather_fn (g h:DGather) (hg:wfGather g) (hh:wfGather h):Fn Tryz.prog 74 [.agg (encGather g),.agg (encGather h)] (.lit (.bool (yes (g=h)))):=by
  have l1:g.Held.length≤1000000000000000:=by have:=hg.2.1;omega
  have l2:h.Held.length≤1000000000000000:=by have:=hh.2.1;omega
  refine fn_of_run (by kernel_rfl) Tryz.func74 rfl (by kernel_rfl) ?_
  refine r_seq ?_
  refine r_region ?_
  (repeat' first|(refine goS_ ?_;((repeat' first|exact True.intro|refine Two.mk ?_ ?_);all_goals intros))|fail "")
  refine thenQ_n ?_
  refine r_cut (fun ok:Bool=>⟨[(2,.ptr 0 0 0 0),(3,.ptr 1 0 0 0),(4,.lit (.bool false)),(5,.lit (.bool ok))],[(0,some (.box 130 (encGather g))),(1,some (.box 130 (encGather h)))],2,Tryz.f74.ntmps⟩) (fun ok=>ok=true ↔ (g.Done=h.Done∧g.Final=h.Final∧g.Window=h.Window∧g.Held.length=h.Held.length)) ?_ ?_
  · (repeat' first|(refine go_ ?_;((repeat' first|exact True.intro|refine Two.mk ?_ ?_);all_goals intros))|fail "")
    all_goals first
      | exact ⟨true,⟨fun _=>(by omega),fun _=>rfl⟩,less_to⟩
      | exact ⟨false,⟨fun h=>(by cases h),fun h=>(by omega)⟩,less_to⟩
  rintro ok hok
  refine r_seq ?_
  (repeat' first|(refine go_ ?_;((repeat' first|exact True.intro|refine Two.mk ?_ ?_);all_goals intros))|fail "")
  refine r_for (fun x:Nat×Bool=>⟨[(2,.ptr 0 0 0 0),(3,.ptr 1 0 0 0),(4,.lit (.bool false)),(5,.lit (.bool x.2)),(6,.lit (.int .i64 x.1))],[(0,some (.box 130 (encGather g))),(1,some (.box 130 (encGather h)))],2,Tryz.f74.ntmps⟩)
      (fun x=>(x.2=true→g.Done=h.Done∧g.Final=h.Final∧g.Window=h.Window)∧Along g.Held h.Held (g=h) x.1 x.2) (fun x=>g.Held.length - x.1) (0,ok) ⟨fun h=>?_,Nat.zero_le _,fun h=>⟨?_,rfl⟩,fun h e=>?_⟩ less_to ?_
  · have:=hok.1 h;omega
  · have:=hok.1 h;omega
  · have:=hok.2 (by rw [e];exact ⟨rfl,rfl,rfl,rfl⟩);rw [show ok=false from h] at this;cases this
  rintro ⟨k,ok⟩ ⟨hq,hk,hs,hn⟩
  dsimp only at hk hq hs hn ⊢
  cases ok
  · have hn:=hn rfl
    (repeat' first|(refine go_ ?_;((repeat' first|exact True.intro|refine Two.mk ?_ ?_);all_goals intros))|fail "")
    all_goals (refine ends_ (hr:=?_);exact noV hn)
  · obtain ⟨hl,ht⟩:=hs rfl
    have hq:=hq rfl
    by_cases hkn:k<g.Held.length
    · (repeat' first|(refine s_yes (sameBytes_fn _ _) (ht:=?_) (hff:=?_) <;> intro _ <;> try (exfalso;omega))|(refine p_yes (sameBytes_fn _ _) (ht:=?_) (hff:=?_) <;> intro _ <;> try (exfalso;omega))|(refine go_ ?_;((repeat' first|exact True.intro|refine Two.mk ?_ ?_);all_goals intros))|fail "")
      all_goals first
        | (refine ⟨(k+1,true),?_,?_,?_⟩;rotate_left 2;(exact lessA_);(exact Z66_);(focus (refine ⟨fun _=>hq,(by dsimp only;omega),fun _=>⟨hl,take_same hkn (by omega) ht ?_⟩,fun h=>(by cases h)⟩;exact ext_Piece (by assumption) (by assumption))))
        | (refine ⟨(k+1,false),?_,?_,?_⟩;rotate_left 2;(exact lessA_);(exact Z66_);(focus (refine ⟨fun h=>(by cases h),(by dsimp only;omega),fun h=>(by cases h),fun _ e=>?_⟩;subst e;first|contradiction|omega|(simp_all;done))))
    · (repeat' first|(refine go_ ?_;((repeat' first|exact True.intro|refine Two.mk ?_ ?_);all_goals intros))|fail "")
      all_goals (refine ends_ (hr:=?_))
      refine yesV ?_
      have:=take_all (by omega) (by omega) ht
      cases g;cases h;simp_all
def gHead' (g:DGather):Prop:=0≤g.Done ∧ -1≤g.Final∧0≤g.Window∧g.Window≤4611686018427387903∧g.Held.length≤4
theorem gEnd_ge:∀ (l:List DPiece) (f:Bool) (a b:Int),gEnd f a l=some b→a≤b
  | [],f,a,b,h=>by simp only [gEnd,Option.some.injEq] at h;omega
  | p :: l,f,a,b,h=>by
    simp only [gEnd] at h
    split at h
    · have:=gEnd_ge l _ _ _ h;omega
    · cases h
theorem tail_ge {g:DGather} (h:gTail g (gEnd true g.Done g.Held)=true):g.Done≤g.Window:=by
  cases he:gEnd true g.Done g.Held with
  | none=>rw [he] at h;cases h
  | some b=>
    rw [he] at h
    have:=gEnd_ge _ _ _ _ he
    simp only [gTail,Bool.and_eq_true,decide_eq_true_eq] at h
    omega
theorem flt_head' {g:DGather} (h:¬ gHead' g):gatherFlt g=9:=flt_head (fun hh=>h (by unfold gHead at hh;unfold gHead';omega))
theorem flt_ok' {g:DGather} (h:gHead' g) (h2:gTail g (gEnd true g.Done g.Held)=true):gatherFlt g=0:=flt_ok (by have:=tail_ge h2;unfold gHead' at h;unfold gHead;omega) h2
def gInv' (g:DGather) (x:Nat×Bool×Int):Prop:=
  x.1≤g.Held.length∧(x.2.1=false→gatherFlt g=9)∧(x.2.1=true→gHead' g∧0≤x.2.2∧gEnd (decide (x.1=0)) x.2.2 (g.Held.drop x.1)=gEnd true g.Done g.Held)
set_option maxHeartbeats 1000000 in
theorem gatherFault_fn (g:DGather) (hw:wfGather g):Fn Tryz.prog 140 [.agg (encGather g)] (.lit (.int .i64 (gatherFlt g))):=by
  have hlen:g.Held.length≤1000000000000000:=by have:=hw.2.1;omega
  have hD:I64 g.Done:=hw.1
  unfold I64 at hD
  refine fn_of_run (by kernel_rfl) Tryz.func140 rfl (by kernel_rfl) ?_
  refine r_seq ?_
  refine r_region ?_
  (repeat' first|(refine goS_ ?_;((repeat' first|exact True.intro|refine Two.mk ?_ ?_);all_goals intros))|fail "")
  refine thenQ_n ?_
  refine r_cut (fun ok:Bool=>⟨[(1,.ptr 0 0 0 0),(2,.lit (.int .i64 0)),(3,.lit (.bool ok))],[(0,some (.box 130 (encGather g)))],1,Tryz.f140.ntmps⟩) (fun ok=>(ok=true→gHead' g)∧(ok=false→gatherFlt g=9)) ?_ ?_
  · (repeat' first|(refine s_dec (upTo_fn _ _) (ht:=?_) (hff:=?_) <;> intro _ <;> try (exfalso;omega))|(refine p_dec (upTo_fn _ _) (ht:=?_) (hff:=?_) <;> intro _ <;> try (exfalso;omega))|(refine go_ ?_;((repeat' first|exact True.intro|refine Two.mk ?_ ?_);all_goals intros))|fail "")
    all_goals first
      | (refine ⟨true,?_,?_⟩;rotate_left 1;(exact lessA_);(focus (exact ⟨fun _=>(by unfold gHead';omega),fun h=>by cases h⟩)))
      | (refine ⟨false,?_,?_⟩;rotate_left 1;(exact lessA_);(focus (exact ⟨(fun h=>by cases h),fun _=>flt_head' (by unfold gHead';omega)⟩)))
  rintro ok ⟨hok1,hok2⟩
  (repeat' first|(refine go_ ?_;((repeat' first|exact True.intro|refine Two.mk ?_ ?_);all_goals intros))|fail "")
  refine r_for (fun x:Nat×Bool×Int=>⟨[(1,.ptr 0 0 0 0),(2,.lit (.int .i64 0)),(3,.lit (.bool x.2.1)),(4,.lit (.int .i64 x.2.2)),(5,.lit (.int .i64 x.1))],[(0,some (.box 130 (encGather g)))],1,Tryz.f140.ntmps⟩)
      (gInv' g) (fun x=>g.Held.length - x.1) (0,ok,g.Done) ⟨Nat.zero_le _,hok2,fun h=>⟨hok1 h,(hok1 h).1,rfl⟩⟩ less_to ?_
  rintro ⟨k,ok,a⟩ ⟨hk,hf,ht⟩
  dsimp only at hk hf ht ⊢
  have hA:a≤9223372036854775807∨a > 9223372036854775807:=by omega
  cases ok
  · have hf:=hf rfl
    (repeat' first|(refine go_ ?_;((repeat' first|exact True.intro|refine Two.mk ?_ ?_);all_goals intros))|fail "")
    all_goals exact ends_ (hr:=by rw [hf])
  obtain ⟨hh,h0,ht⟩:=ht rfl
  have hg:=hh
  unfold gHead' at hg
  by_cases hkn:k<g.Held.length
  · have hE:gEnd (decide (k=0)) a (g.Held.drop k)=if 0<(g.Held.getD k default).Data.length∧a≤(g.Held.getD k default).Off∧(g.Held.getD k default).Off+(g.Held.getD k default).Data.length≤4611686018427387903∧(k=0∨a<(g.Held.getD k default).Off) then gEnd false ((g.Held.getD k default).Off+(g.Held.getD k default).Data.length) (g.Held.drop (k+1)) else none:=by
      rw [drop_cons hkn];simp only [gEnd,decide_eq_true_eq]
    obtain ⟨hp1,hp2⟩:=hw.2.2.1 _ (getD_mem hkn)
    unfold I64 at hp1
    rw [hE] at ht
    (repeat' first|(refine s_dec (upTo_fn _ _) (ht:=?_) (hff:=?_) <;> intro _ <;> try (exfalso;omega))|(refine p_dec (upTo_fn _ _) (ht:=?_) (hff:=?_) <;> intro _ <;> try (exfalso;omega))|(refine go_ ?_;((repeat' first|exact True.intro|refine Two.mk ?_ ?_);all_goals intros))|fail "")
    all_goals first
      | (refine ⟨(k+1,true,(g.Held.getD k default).Off+(g.Held.getD k default).Data.length),?_,?_,?_⟩;rotate_left 2;(exact lessA_);(exact Z66_);(focus (refine ⟨(by dsimp only;omega),(fun h=>by cases h),fun _=>⟨hh,(by dsimp only;omega),?_⟩⟩;rw [if_pos (by omega)] at ht;exact ht)))
      | (refine ⟨(k+1,false,IntKind.i64.wrap ((g.Held.getD k default).Off+(g.Held.getD k default).Data.length)),?_,?_,?_⟩;rotate_left 2;(exact lessA_);(exact Z66_);(exact Z19_))
      | (refine ⟨(k+1,false,(g.Held.getD k default).Off+(g.Held.getD k default).Data.length),?_,?_,?_⟩;rotate_left 2;(exact lessA_);(exact Z66_);(exact Z19_))
      | trace_state
  · have hkl:k=g.Held.length:=by omega
    rw [hkl,List.drop_length] at ht
    (repeat' first|(refine go_ ?_;((repeat' first|exact True.intro|refine Two.mk ?_ ?_);all_goals intros))|fail "")
    all_goals first
      | (refine ends_ (hr:=?_);rw [flt_tail (by rw [← ht];simp [gEnd,gTail];omega)])
      | (refine ends_ (hr:=?_);rw [flt_ok' hh (by rw [← ht];simp [gEnd,gTail];omega)])
end Go.Proofs.YtendheafcbickaaGreat


set_option linter.unusedVariables false
namespace Go.Proofs.YtendheafcbickaaGreat.U
open Go.RowKit
def wfRange (x:DRange):Prop:=I64 x.Lo∧I64 x.Hi
theorem wf_leRange (x:DRange) (h:wfRange x):Proofs.YtendheafcbickaaGreat.wfRange x:=by
  unfold wfRange at h
  unfold Proofs.YtendheafcbickaaGreat.wfRange
  obtain ⟨h0,h1⟩:=h
  exact ⟨h0,h1⟩
def wfFlow (x:DFlow):Prop:=I64 x.Max∧I64 x.Used
theorem wf_leFlow (x:DFlow) (h:wfFlow x):Proofs.YtendheafcbickaaGreat.wfFlow x:=by
  unfold wfFlow at h
  unfold Proofs.YtendheafcbickaaGreat.wfFlow
  obtain ⟨h0,h1⟩:=h
  exact ⟨h0,h1⟩
def wfPace (x:DPace):Prop:=I64 x.Window∧I64 x.Thresh∧I64 x.Flying∧I64 x.Since
theorem wf_lePace (x:DPace) (h:wfPace x):Proofs.YtendheafcbickaaGreat.wfPace x:=by
  unfold wfPace at h
  unfold Proofs.YtendheafcbickaaGreat.wfPace
  obtain ⟨h0,h1,h2,h3⟩:=h
  exact ⟨h0,h1,h2,h3⟩
def wfTally (x:DTally):Prop:=I64 x.Got∧I64 x.Sent
def wfField (x:DField):Prop:=x.Name.length≤1048576∧x.Value.length≤1048576
def wfPiece (x:DPiece):Prop:=I64 x.Off∧x.Data.length * 1≤1048576
theorem wf_lePiece (x:DPiece) (h:wfPiece x):Proofs.YtendheafcbickaaGreat.wfPiece x:=by
  unfold wfPiece at h
  unfold Proofs.YtendheafcbickaaGreat.wfPiece
  obtain ⟨h0,h1⟩:=h
  exact ⟨h0,(by have:=h1;omega)⟩
def wfGather (x:DGather):Prop:=I64 x.Done∧x.Held.length * 32≤33554432∧(∀ y,y ∈ x.Held→wfPiece y)∧I64 x.Final∧I64 x.Window
theorem wf_leGather (x:DGather) (h:wfGather x):Proofs.YtendheafcbickaaGreat.wfGather x:=by
  unfold wfGather at h
  unfold Proofs.YtendheafcbickaaGreat.wfGather
  obtain ⟨h0,h1,h2,h3,h4⟩:=h
  exact ⟨h0,(by have:=h1;omega),(fun y hy=>wf_lePiece y (h2 y hy)),h3,h4⟩
def wfSender (x:DSender):Prop:=x.Data.length * 1≤1048576∧I64 x.Next∧I64 x.Max∧x.Lost.length * 16≤16777216∧(∀ y,y ∈ x.Lost→wfRange y)∧x.Acked.length * 16≤16777216∧(∀ y,y ∈ x.Acked→wfRange y)
theorem wf_leSender (x:DSender) (h:wfSender x):Proofs.YtendheafcbickaaGreat.wfSender x:=by
  unfold wfSender at h
  unfold Proofs.YtendheafcbickaaGreat.wfSender
  obtain ⟨h0,h1,h2,h3,h4,h5,h6⟩:=h
  exact ⟨(by have:=h0;omega),h1,h2,(by have:=h3;omega),(fun y hy=>wf_leRange y (h4 y hy)),(by have:=h5;omega),(fun y hy=>wf_leRange y (h6 y hy))⟩
def wfFrame (x:DFrame):Prop:=I64 x.Kind∧I64 x.Id∧I64 x.Off∧I64 x.Code∧x.Ranges.length * 16≤16777216∧(∀ y,y ∈ x.Ranges→wfRange y)∧x.Data.length * 1≤1048576
theorem wf_leFrame (x:DFrame) (h:wfFrame x):Proofs.YtendheafcbickaaGreat.wfFrame x:=by
  unfold wfFrame at h
  unfold Proofs.YtendheafcbickaaGreat.wfFrame
  obtain ⟨h0,h1,h2,h3,h4,h5,h6⟩:=h
  exact ⟨h0,h1,h2,h3,(by have:=h4;omega),(fun y hy=>wf_leRange y (h5 y hy)),(by have:=h6;omega)⟩
def wfHead (x:DHead):Prop:=I64 x.Kind∧I64 x.To∧I64 x.From∧x.Token.length * 1≤1048576∧I64 x.Number∧I64 x.Size
def wfParcel (x:DParcel):Prop:=I64 x.Number∧I64 x.Time∧I64 x.Size∧x.Frames.length * 88≤92274688∧(∀ y,y ∈ x.Frames→wfFrame y)
theorem wf_leParcel (x:DParcel) (h:wfParcel x):Proofs.YtendheafcbickaaGreat.wfParcel x:=by
  unfold wfParcel at h
  unfold Proofs.YtendheafcbickaaGreat.wfParcel
  obtain ⟨h0,h1,h2,h3,h4⟩:=h
  exact ⟨h0,h1,h2,(by have:=h3;omega),(fun y hy=>wf_leFrame y (h4 y hy))⟩
def wfSpace (x:DSpace):Prop:=I64 x.Next∧x.Sent.length * 48≤50331648∧(∀ y,y ∈ x.Sent→wfParcel y)∧I64 x.Top∧x.Heard.length * 16≤16777216∧(∀ y,y ∈ x.Heard→wfRange y)∧x.Skip.length * 8≤8388608∧(∀ y,y ∈ x.Skip→I64 y)
theorem wf_leSpace (x:DSpace) (h:wfSpace x):Proofs.YtendheafcbickaaGreat.wfSpace x:=by
  unfold wfSpace at h
  unfold Proofs.YtendheafcbickaaGreat.wfSpace
  obtain ⟨h0,h1,h2,h3,h4,h5,h6,h7⟩:=h
  exact ⟨h0,(by have:=h1;omega),(fun y hy=>wf_leParcel y (h2 y hy)),h3,(by have:=h4;omega),(fun y hy=>wf_leRange y (h5 y hy)),(by have:=h6;omega),h7⟩
def wfTable (x:DTable):Prop:=I64 x.Room∧I64 x.Put∧x.Rows.length * 32≤33554432∧(∀ y,y ∈ x.Rows→wfField y)
def wfRequest (x:DRequest):Prop:=x.Fields.length * 32≤33554432∧(∀ y,y ∈ x.Fields→wfField y)∧x.Body.length * 1≤1048576
def wfReader (x:DReader):Prop:=x.Held.length * 1≤1048576∧x.Fields.length * 32≤33554432∧(∀ y,y ∈ x.Fields→wfField y)∧x.Body.length * 1≤1048576
def wfLane (x:DLane):Prop:=I64 x.Id∧wfGather x.In∧x.Read.length * 1≤1048576∧wfSender x.Out
theorem wf_leLane (x:DLane) (h:wfLane x):Proofs.YtendheafcbickaaGreat.wfLane x:=by
  unfold wfLane at h
  unfold Proofs.YtendheafcbickaaGreat.wfLane
  obtain ⟨h0,h1,h2,h3⟩:=h
  exact ⟨h0,(wf_leGather _ h1),(by have:=h2;omega),(wf_leSender _ h3)⟩
def wfConn (x:DConn):Prop:=wfSpace x.Space∧wfPace x.Pace∧wfFlow x.Flow∧wfFlow x.Credit∧I64 x.Ids∧I64 x.Grant∧I64 x.Opened∧x.Lanes.length * 192≤201326592∧(∀ y,y ∈ x.Lanes→wfLane y)∧x.Queue.length * 88≤92274688∧(∀ y,y ∈ x.Queue→wfFrame y)∧I64 x.Last∧I64 x.Resets∧I64 x.Code
theorem wf_leConn (x:DConn) (h:wfConn x):Proofs.YtendheafcbickaaGreat.wfConn x:=by
  unfold wfConn at h
  unfold Proofs.YtendheafcbickaaGreat.wfConn
  obtain ⟨h0,h1,h2,h3,h4,h5,h6,h7,h8,h9,h10,h11,h12,h13⟩:=h
  exact ⟨(wf_leSpace _ h0),(wf_lePace _ h1),(wf_leFlow _ h2),(wf_leFlow _ h3),h4,h5,h6,(by have:=h7;omega),(fun y hy=>wf_leLane y (h8 y hy)),(by have:=h9;omega),(fun y hy=>wf_leFrame y (h10 y hy)),h11,h12,h13⟩
def wfNote (x:DNote):Prop:=I64 x.Id∧I64 x.From∧I64 x.Peer∧U64 x.Key∧wfConn x.Conn
def wfGate (x:DGate):Prop:=U64 x.Secret∧I64 x.Now∧I64 x.Next∧x.Notes.length * 312≤327155712∧(∀ y,y ∈ x.Notes→wfNote y)∧wfTally x.Tally0∧wfTally x.Tally1∧wfTally x.Tally2∧wfTally x.Tally3∧I64 x.Shed
def wfMail (x:DMail):Prop:=I64 x.Peer∧x.Data.length * 1≤1048576
def wfClient (x:DClient):Prop:=I64 x.Peer∧I64 x.Id∧U64 x.Word∧x.Token.length * 1≤1048576∧I64 x.To∧U64 x.Key∧wfConn x.Conn
theorem wf_leClient (x:DClient) (h:wfClient x):Proofs.YtendheafcbickaaGreat.wfClient x:=by
  unfold wfClient at h
  unfold Proofs.YtendheafcbickaaGreat.wfClient
  obtain ⟨h0,h1,h2,h3,h4,h5,h6⟩:=h
  exact ⟨h0,h1,h2,(by have:=h3;omega),h4,h5,(wf_leConn _ h6)⟩
def wfAct (x:DAct):Prop:=I64 x.Kind∧I64 x.Peer∧I64 x.At∧I64 x.N∧U64 x.Word∧x.Data.length * 1≤1048576
def wfLetter (x:DLetter):Prop:=wfMail x.Mail
def wfWorld (x:DWorld):Prop:=wfGate x.Gate∧x.Clients.length * 336≤352321536∧(∀ y,y ∈ x.Clients→wfClient y)∧x.Way.length * 40≤41943040∧(∀ y,y ∈ x.Way→wfLetter y)∧I64 x.Now
end Go.Proofs.YtendheafcbickaaGreat.U
namespace Go.Proofs.YtendheafcbickaaGreat.W
open Go.RowKit
def wfPiece (x:DPiece):Prop:=I64 x.Off∧x.Data.length * 1≤16777216
theorem wf_lePiece (x:DPiece) (h:W.wfPiece x):Proofs.YtendheafcbickaaGreat.wfPiece x:=by
  unfold W.wfPiece at h
  unfold Proofs.YtendheafcbickaaGreat.wfPiece
  obtain ⟨h0,h1⟩:=h
  exact ⟨h0,(by have:=h1;omega)⟩
theorem of_Piece (x:DPiece) (h:U.wfPiece x):W.wfPiece x:=by
  unfold U.wfPiece at h
  unfold W.wfPiece
  obtain ⟨h0,h1⟩:=h
  exact ⟨h0,(by have:=h1;omega)⟩
def wfGather (x:DGather):Prop:=I64 x.Done∧x.Held.length * 32≤33554432∧(∀ y,y ∈ x.Held→wfPiece y)∧I64 x.Final∧I64 x.Window
theorem wf_leGather (x:DGather) (h:W.wfGather x):Proofs.YtendheafcbickaaGreat.wfGather x:=by
  unfold W.wfGather at h
  unfold Proofs.YtendheafcbickaaGreat.wfGather
  obtain ⟨h0,h1,h2,h3,h4⟩:=h
  exact ⟨h0,(by have:=h1;omega),(fun y hy=>wf_lePiece y (h2 y hy)),h3,h4⟩
theorem of_Gather (x:DGather) (h:U.wfGather x):W.wfGather x:=by
  unfold U.wfGather at h
  unfold W.wfGather
  obtain ⟨h0,h1,h2,h3,h4⟩:=h
  exact ⟨h0,(by have:=h1;omega),(fun y hy=>of_Piece y (h2 y hy)),h3,h4⟩
def wfLane (x:DLane):Prop:=I64 x.Id∧wfGather x.In∧x.Read.length * 1≤1048576∧U.wfSender x.Out
theorem wf_leLane (x:DLane) (h:W.wfLane x):Proofs.YtendheafcbickaaGreat.wfLane x:=by
  unfold W.wfLane at h
  unfold Proofs.YtendheafcbickaaGreat.wfLane
  obtain ⟨h0,h1,h2,h3⟩:=h
  exact ⟨h0,(wf_leGather _ h1),(by have:=h2;omega),(U.wf_leSender _ h3)⟩
theorem of_Lane (x:DLane) (h:U.wfLane x):W.wfLane x:=by
  unfold U.wfLane at h
  unfold W.wfLane
  obtain ⟨h0,h1,h2,h3⟩:=h
  exact ⟨h0,(of_Gather _ h1),(by have:=h2;omega),(id h3)⟩
def wfConn (x:DConn):Prop:=U.wfSpace x.Space∧U.wfPace x.Pace∧U.wfFlow x.Flow∧U.wfFlow x.Credit∧I64 x.Ids∧I64 x.Grant∧I64 x.Opened∧x.Lanes.length * 192≤201326592∧(∀ y,y ∈ x.Lanes→wfLane y)∧x.Queue.length * 88≤92274688∧(∀ y,y ∈ x.Queue→U.wfFrame y)∧I64 x.Last∧I64 x.Resets∧I64 x.Code
theorem wf_leConn (x:DConn) (h:W.wfConn x):Proofs.YtendheafcbickaaGreat.wfConn x:=by
  unfold W.wfConn at h
  unfold Proofs.YtendheafcbickaaGreat.wfConn
  obtain ⟨h0,h1,h2,h3,h4,h5,h6,h7,h8,h9,h10,h11,h12,h13⟩:=h
  exact ⟨(U.wf_leSpace _ h0),(U.wf_lePace _ h1),(U.wf_leFlow _ h2),(U.wf_leFlow _ h3),h4,h5,h6,(by have:=h7;omega),(fun y hy=>wf_leLane y (h8 y hy)),(by have:=h9;omega),(fun y hy=>U.wf_leFrame _ (h10 y hy)),h11,h12,h13⟩
theorem of_Conn (x:DConn) (h:U.wfConn x):W.wfConn x:=by
  unfold U.wfConn at h
  unfold W.wfConn
  obtain ⟨h0,h1,h2,h3,h4,h5,h6,h7,h8,h9,h10,h11,h12,h13⟩:=h
  exact ⟨(id h0),(id h1),(id h2),(id h3),h4,h5,h6,(by have:=h7;omega),(fun y hy=>of_Lane y (h8 y hy)),(by have:=h9;omega),(fun y hy=>id (h10 y hy)),h11,h12,h13⟩
def wfNote (x:DNote):Prop:=I64 x.Id∧I64 x.From∧I64 x.Peer∧U64 x.Key∧wfConn x.Conn
def wfGate (x:DGate):Prop:=U64 x.Secret∧I64 x.Now∧I64 x.Next∧x.Notes.length * 312≤327155712∧(∀ y,y ∈ x.Notes→wfNote y)∧U.wfTally x.Tally0∧U.wfTally x.Tally1∧U.wfTally x.Tally2∧U.wfTally x.Tally3∧I64 x.Shed
def wfClient (x:DClient):Prop:=I64 x.Peer∧I64 x.Id∧U64 x.Word∧x.Token.length * 1≤1048576∧I64 x.To∧U64 x.Key∧wfConn x.Conn
theorem wf_leClient (x:DClient) (h:W.wfClient x):Proofs.YtendheafcbickaaGreat.wfClient x:=by
  unfold W.wfClient at h
  unfold Proofs.YtendheafcbickaaGreat.wfClient
  obtain ⟨h0,h1,h2,h3,h4,h5,h6⟩:=h
  exact ⟨h0,h1,h2,(by have:=h3;omega),h4,h5,(wf_leConn _ h6)⟩
theorem of_Client (x:DClient) (h:U.wfClient x):W.wfClient x:=by
  unfold U.wfClient at h
  unfold W.wfClient
  obtain ⟨h0,h1,h2,h3,h4,h5,h6⟩:=h
  exact ⟨h0,h1,h2,(by have:=h3;omega),h4,h5,(of_Conn _ h6)⟩
end Go.Proofs.YtendheafcbickaaGreat.W
