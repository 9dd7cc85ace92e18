
import Derived.Test.YtendheafcbickaaGreatHZip
import Derived.Test.YtendheafcbickaaGreatHGo
import Derived.Test.YtendheafcbickaaGreatHMg07
set_option linter.unusedVariables false
set_option linter.unusedSimpArgs false
set_option linter.unusedVariables false
namespace Go.Proofs.YtendheafcbickaaGreat
set_option maxRecDepth 100000
attribute [local irreducible] Run RunL QStep GStep Fn Less PL
set_option maxHeartbeats 2000000 in
theorem sameInts_fn (l m:List Int) (hl:l.length * 8≤140737488355328) (hm:m.length * 8≤140737488355328):Fn Tryz.prog 159 [.ro (l.map encI),.ro (m.map encI)] (.lit (.bool (yes (l=m)))):=by
  by_cases hlen:l.length=m.length
  · refine fn_of_run (by kernel_rfl) Tryz.func159 rfl (by kernel_rfl) ?_
    (repeat' first|(refine go_ ?_;((repeat' first|exact True.intro|refine Two.mk ?_ ?_);all_goals intros))|fail "")
    refine r_for (fun x:Nat×Bool=>⟨[(0,.ro (l.map encI)),(1,.ro (m.map encI)),(5,.lit (.bool x.2)),(6,.lit (.int .i64 x.1))],[],0,Tryz.f159.ntmps⟩)
      (fun x=>Along l m (l=m) x.1 x.2) (fun x=>l.length - x.1) (0,true) ⟨Nat.zero_le _,fun _=>⟨hlen,rfl⟩,fun h=>by cases h⟩ less_to ?_
    rintro ⟨k,ok⟩ ⟨hk,hs,hn⟩
    dsimp only at hk hs hn ⊢
    cases ok
    · (repeat' first|(refine go_ ?_;((repeat' first|exact True.intro|refine Two.mk ?_ ?_);all_goals intros))|fail "")
      all_goals (refine ends_ (hr:=?_);exact noV (hn rfl))
    · obtain ⟨_,ht⟩:=hs rfl
      by_cases hkn:k<l.length
      · skip
        (repeat' first|(refine go_ ?_;((repeat' first|exact True.intro|refine Two.mk ?_ ?_);all_goals intros))|fail "")
        all_goals first
          | (refine ⟨(k+1,true),?_,?_,?_⟩;rotate_left 2;(exact lessA_);(exact Z66_);(exact Z32_))
          | (refine ⟨(k+1,false),?_,?_,?_⟩;rotate_left 2;(exact lessA_);(exact Z66_);(exact Z45_))
      · (repeat' first|(refine go_ ?_;((repeat' first|exact True.intro|refine Two.mk ?_ ?_);all_goals intros))|fail "")
        all_goals (refine ends_ (hr:=?_);exact yesV (take_all (by omega) (by omega) ht))
  · refine fn_of_run (by kernel_rfl) Tryz.func159 rfl (by kernel_rfl) ?_
    (repeat' first|(refine go_ ?_;((repeat' first|exact True.intro|refine Two.mk ?_ ?_);all_goals intros))|fail "")
    refine r_for (fun _:Unit=>⟨[(5,.lit (.bool false))],[],0,Tryz.f159.ntmps⟩) (fun _=>True) (fun _=>0) () trivial less_to ?_
    intro _ _
    (repeat' first|(refine go_ ?_;((repeat' first|exact True.intro|refine Two.mk ?_ ?_);all_goals intros))|fail "")
    all_goals (refine ends_ (hr:=?_);exact noV (fun e=>hlen (by rw [e])))
theorem sameFrame2_fn (a b:DFrame) (ha:wfFrame a) (hb:wfFrame b):Fn Tryz.prog 160 [.agg (encFrame a),.agg (encFrame b)] (.lit (.bool (yes (a=b)))):=by
  have h1:=sameRanges_fn a.Ranges b.Ranges (by have:=ha.2.2.2.2.1;omega) (by have:=hb.2.2.2.2.1;omega)
  have h2:=sameBytes_fn a.Data b.Data
  refine fn_of_run (by kernel_rfl) Tryz.func160 rfl (by kernel_rfl) ?_
  (repeat' first|(refine s_yes (h1) (ht:=?_) (hff:=?_) <;> intro _ <;> try (exfalso;omega))|(refine p_yes (h1) (ht:=?_) (hff:=?_) <;> intro _ <;> try (exfalso;omega))|(refine s_yes (h2) (ht:=?_) (hff:=?_) <;> intro _ <;> try (exfalso;omega))|(refine p_yes (h2) (ht:=?_) (hff:=?_) <;> intro _ <;> try (exfalso;omega))|(refine go_ ?_;((repeat' first|exact True.intro|refine Two.mk ?_ ?_);all_goals intros))|fail "")
  all_goals (refine ends_ (hr:=?_))
  all_goals first
    | exact yesV (ext_Frame (by assumption) (by assumption) (by assumption) (by assumption) (by assumption) (by assumption) (by assumption))
    | exact noV (fun e=>by subst e;first|contradiction|simp_all)
set_option maxHeartbeats 2000000 in
theorem sameFrames_fn (l m:List DFrame) (hl:l.length * 88≤140737488355328) (hm:m.length * 88≤140737488355328) (wl:∀ y,y ∈ l→wfFrame y) (wm:∀ y,y ∈ m→wfFrame y):Fn Tryz.prog 73 [.ro (l.map encFrame),.ro (m.map encFrame)] (.lit (.bool (yes (l=m)))):=by
  by_cases hlen:l.length=m.length
  · refine fn_of_run (by kernel_rfl) Tryz.func73 rfl (by kernel_rfl) ?_
    (repeat' first|(refine go_ ?_;((repeat' first|exact True.intro|refine Two.mk ?_ ?_);all_goals intros))|fail "")
    refine r_for (fun x:Nat×Bool=>⟨[(0,.ro (l.map encFrame)),(1,.ro (m.map encFrame)),(5,.lit (.bool x.2)),(6,.lit (.int .i64 x.1))],[],0,Tryz.f73.ntmps⟩)
      (fun x=>Along l m (l=m) x.1 x.2) (fun x=>l.length - x.1) (0,true) ⟨Nat.zero_le _,fun _=>⟨hlen,rfl⟩,fun h=>by cases h⟩ less_to ?_
    rintro ⟨k,ok⟩ ⟨hk,hs,hn⟩
    dsimp only at hk hs hn ⊢
    cases ok
    · (repeat' first|(refine go_ ?_;((repeat' first|exact True.intro|refine Two.mk ?_ ?_);all_goals intros))|fail "")
      all_goals (refine ends_ (hr:=?_);exact noV (hn rfl))
    · obtain ⟨_,ht⟩:=hs rfl
      by_cases hkn:k<l.length
      · skip
        have hx:=wl _ (getD_mem hkn)
        have hy:=wm _ (getD_mem (show k<m.length by omega))
        (repeat' first|(refine s_yes (sameFrame2_fn _ _ hx hy) (ht:=?_) (hff:=?_) <;> intro _ <;> try (exfalso;omega))|(refine p_yes (sameFrame2_fn _ _ hx hy) (ht:=?_) (hff:=?_) <;> intro _ <;> try (exfalso;omega))|(refine go_ ?_;((repeat' first|exact True.intro|refine Two.mk ?_ ?_);all_goals intros))|fail "")
        all_goals first
          | (refine ⟨(k+1,true),?_,?_,?_⟩;rotate_left 2;(exact lessA_);(exact Z66_);(exact Z32_))
          | (refine ⟨(k+1,false),?_,?_,?_⟩;rotate_left 2;(exact lessA_);(exact Z66_);(exact Z45_))
      · (repeat' first|(refine go_ ?_;((repeat' first|exact True.intro|refine Two.mk ?_ ?_);all_goals intros))|fail "")
        all_goals (refine ends_ (hr:=?_);exact yesV (take_all (by omega) (by omega) ht))
  · refine fn_of_run (by kernel_rfl) Tryz.func73 rfl (by kernel_rfl) ?_
    (repeat' first|(refine go_ ?_;((repeat' first|exact True.intro|refine Two.mk ?_ ?_);all_goals intros))|fail "")
    refine r_for (fun _:Unit=>⟨[(5,.lit (.bool false))],[],0,Tryz.f73.ntmps⟩) (fun _=>True) (fun _=>0) () trivial less_to ?_
    intro _ _
    (repeat' first|(refine go_ ?_;((repeat' first|exact True.intro|refine Two.mk ?_ ?_);all_goals intros))|fail "")
    all_goals (refine ends_ (hr:=?_);exact noV (fun e=>hlen (by rw [e])))
set_option maxHeartbeats 2000000 in
theorem sameParcels_fn (l m:List DParcel) (hl:l.length * 48≤140737488355328) (hm:m.length * 48≤140737488355328) (wl:∀ y,y ∈ l→wfParcel y) (wm:∀ y,y ∈ m→wfParcel y):Fn Tryz.prog 157 [.ro (l.map encParcel),.ro (m.map encParcel)] (.lit (.bool (yes (l=m)))):=by
  by_cases hlen:l.length=m.length
  · refine fn_of_run (by kernel_rfl) Tryz.func157 rfl (by kernel_rfl) ?_
    (repeat' first|(refine go_ ?_;((repeat' first|exact True.intro|refine Two.mk ?_ ?_);all_goals intros))|fail "")
    refine r_for (fun x:Nat×Bool=>⟨[(0,.ro (l.map encParcel)),(1,.ro (m.map encParcel)),(5,.lit (.bool x.2)),(6,.lit (.int .i64 x.1))],[],0,Tryz.f157.ntmps⟩)
      (fun x=>Along l m (l=m) x.1 x.2) (fun x=>l.length - x.1) (0,true) ⟨Nat.zero_le _,fun _=>⟨hlen,rfl⟩,fun h=>by cases h⟩ less_to ?_
    rintro ⟨k,ok⟩ ⟨hk,hs,hn⟩
    dsimp only at hk hs hn ⊢
    cases ok
    · (repeat' first|(refine go_ ?_;((repeat' first|exact True.intro|refine Two.mk ?_ ?_);all_goals intros))|fail "")
      all_goals (refine ends_ (hr:=?_);exact noV (hn rfl))
    · obtain ⟨_,ht⟩:=hs rfl
      by_cases hkn:k<l.length
      · skip
        have hx:=wl _ (getD_mem hkn)
        have hy:=wm _ (getD_mem (show k<m.length by omega))
        (repeat' first|(refine s_yes (sameFrames_fn _ _ (by have:=hx.2.2.2.1;omega) (by have:=hy.2.2.2.1;omega) hx.2.2.2.2 hy.2.2.2.2) (ht:=?_) (hff:=?_) <;> intro _ <;> try (exfalso;omega))|(refine p_yes (sameFrames_fn _ _ (by have:=hx.2.2.2.1;omega) (by have:=hy.2.2.2.1;omega) hx.2.2.2.2 hy.2.2.2.2) (ht:=?_) (hff:=?_) <;> intro _ <;> try (exfalso;omega))|(refine go_ ?_;((repeat' first|exact True.intro|refine Two.mk ?_ ?_);all_goals intros))|fail "")
        all_goals first
          | (refine ⟨(k+1,true),?_,?_,?_⟩;rotate_left 2;(exact lessA_);(exact Z66_);(focus (exact ⟨hkn,fun _=>⟨hlen,take_same hkn (by omega) ht (by exact ext_Parcel (by assumption) (by assumption) (by assumption) (by assumption))⟩,fun h=>by cases h⟩)))
          | (refine ⟨(k+1,false),?_,?_,?_⟩;rotate_left 2;(exact lessA_);(exact Z66_);(focus (exact ⟨hkn,fun h=>(by cases h),fun _=>ne_getD (k:=k) (by first|exact fun e=>absurd (congrArg DParcel.Number e) (by assumption)|exact fun e=>absurd (congrArg DParcel.Time e) (by assumption)|exact fun e=>absurd (congrArg DParcel.Size e) (by assumption)|exact fun e=>absurd (congrArg DParcel.Frames e) (by assumption))⟩)))
      · (repeat' first|(refine go_ ?_;((repeat' first|exact True.intro|refine Two.mk ?_ ?_);all_goals intros))|fail "")
        all_goals (refine ends_ (hr:=?_);exact yesV (take_all (by omega) (by omega) ht))
  · refine fn_of_run (by kernel_rfl) Tryz.func157 rfl (by kernel_rfl) ?_
    (repeat' first|(refine go_ ?_;((repeat' first|exact True.intro|refine Two.mk ?_ ?_);all_goals intros))|fail "")
    refine r_for (fun _:Unit=>⟨[(5,.lit (.bool false))],[],0,Tryz.f157.ntmps⟩) (fun _=>True) (fun _=>0) () trivial less_to ?_
    intro _ _
    (repeat' first|(refine go_ ?_;((repeat' first|exact True.intro|refine Two.mk ?_ ?_);all_goals intros))|fail "")
    all_goals (refine ends_ (hr:=?_);exact noV (fun e=>hlen (by rw [e])))
theorem sameSpace_fn (a b:DSpace) (ha:wfSpace a) (hb:wfSpace b):Fn Tryz.prog 72 [.agg (encSpace a),.agg (encSpace b)] (.lit (.bool (yes (a=b)))):=by
  have h1:=sameRanges_fn a.Heard b.Heard (by have:=ha.2.2.2.2.1;omega) (by have:=hb.2.2.2.2.1;omega)
  have h2:=sameInts_fn a.Skip b.Skip (by have:=ha.2.2.2.2.2.2.1;omega) (by have:=hb.2.2.2.2.2.2.1;omega)
  have h3:=sameParcels_fn a.Sent b.Sent (by have:=ha.2.1;omega) (by have:=hb.2.1;omega) ha.2.2.1 hb.2.2.1
  refine fn_of_run (by kernel_rfl) Tryz.func72 rfl (by kernel_rfl) ?_
  (repeat' first|(refine s_yes (h1) (ht:=?_) (hff:=?_) <;> intro _ <;> try (exfalso;omega))|(refine p_yes (h1) (ht:=?_) (hff:=?_) <;> intro _ <;> try (exfalso;omega))|(refine s_yes (h2) (ht:=?_) (hff:=?_) <;> intro _ <;> try (exfalso;omega))|(refine p_yes (h2) (ht:=?_) (hff:=?_) <;> intro _ <;> try (exfalso;omega))|(refine s_yes (h3) (ht:=?_) (hff:=?_) <;> intro _ <;> try (exfalso;omega))|(refine p_yes (h3) (ht:=?_) (hff:=?_) <;> intro _ <;> try (exfalso;omega))|(refine go_ ?_;((repeat' first|exact True.intro|refine Two.mk ?_ ?_);all_goals intros))|fail "")
  all_goals (refine ends_ (hr:=?_))
  all_goals first
    | exact yesV (ext_Space (by assumption) (by assumption) (by assumption) (by assumption) (by assumption))
    | exact noV (fun e=>by subst e;first|contradiction|simp_all)
end Go.Proofs.YtendheafcbickaaGreat
