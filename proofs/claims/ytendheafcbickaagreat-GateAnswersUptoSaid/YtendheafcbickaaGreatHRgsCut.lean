
import Derived.Test.YtendheafcbickaaGreatHZip
import Derived.Test.YtendheafcbickaaGreatHGo
import Derived.Test.YtendheafcbickaaGreatHMg07
set_option linter.unusedVariables false
set_option linter.unusedSimpArgs false
set_option linter.unusedVariables false
namespace Go.Proofs.YtendheafcbickaaGreat
set_option maxRecDepth 100000
attribute [local irreducible] Run RunL QStep GStep Fn Less PL
theorem rangesFaultR_fn (l:List DRange) (r:DRange) (hw:∀ y,y ∈ l→wfRange y) (hl:l.length * 16≤140737488355312):Fn Tryz.prog 288 [.ro (l.map encRange),.agg (encRange r)] (.lit (.int .i64 (rgFlt l r))):=by
  have h1:=rangesCheck_fn l hw hl
  unfold rgFlt
  generalize rFlt l=e at *
  refine fn_of_run (by kernel_rfl) Tryz.func288 rfl (by kernel_rfl) ?_
  (repeat' first|(refine s_call (h1) (h:=?_))|(refine p_call (h1) (h:=?_))|(refine s_dec (good_fn _) (ht:=?_) (hff:=?_) <;> intro _ <;> try (exfalso;omega))|(refine p_dec (good_fn _) (ht:=?_) (hff:=?_) <;> intro _ <;> try (exfalso;omega))|(refine go_ ?_;((repeat' first|exact True.intro|refine Two.mk ?_ ?_);all_goals intros))|fail "")
  all_goals (refine ends_ (hr:=?_))
  all_goals first
    | rw [if_pos (by assumption)]
    | rw [if_neg (by assumption),if_pos (by assumption)]
    | rw [if_neg (by assumption),if_neg (by assumption)]
def cut1 (r x:DRange):List DRange:=(if x.Lo<r.Lo then [⟨x.Lo,min x.Hi (r.Lo - 1)⟩] else [])++(if r.Hi<x.Hi then [⟨max x.Lo (r.Hi+1),x.Hi⟩] else [])
def rCut (l:List DRange) (r:DRange):List DRange:=l.flatMap (cut1 r)
theorem rCut_nil (r:DRange):rCut [] r=[]:=rfl
theorem rCut_cons (x r:DRange) (l:List DRange):rCut (x :: l) r=cut1 r x++rCut l r:=rfl
theorem rCut_app (l m:List DRange) (r:DRange):rCut (l++m) r=rCut l r++rCut m r:=by unfold rCut;rw [List.flatMap_append]
theorem rCut_one (x r:DRange):rCut [x] r=cut1 r x:=by rw [rCut_cons,rCut_nil,List.append_nil]
theorem rSet_weak:∀ {l:List DRange} {a b:Int},rSet a l→b≤a→rSet b l
  | [],_,_,_,_=>trivial
  | r :: l,a,b,h,hb=>⟨h.1,by have:=h.2.1;omega,h.2.2⟩
theorem rSet_good:∀ {l:List DRange} {a:Int},rSet a l → ∀ x ∈ l,rGood x∧a+2≤x.Lo
  | r :: l,a,h,x,hx=>by
    rcases List.mem_cons.1 hx with rfl|hx
    · exact ⟨h.1,h.2.1⟩
    · have:=rSet_good h.2.2 x hx
      have h1:=h.1
      have h2:=h.2.1
      unfold rGood at h1
      exact ⟨this.1,by omega⟩
theorem rSet_take:∀ {l:List DRange} {a:Int} (k:Nat),rSet a l→rSet a (l.take k)
  | [],_,k,h=>by simp [rSet]
  | r :: l,a,0,h=>trivial
  | r :: l,a,k+1,h=>⟨h.1,h.2.1,rSet_take k h.2.2⟩
theorem rCut_len0 {r:DRange} (hr:rGood r):∀ {l:List DRange} {a:Int},rSet a l→r.Hi≤a+1→(rCut l r).length≤l.length
  | [],_,_,_=>by simp [rCut]
  | x :: l,a,h,ha=>by
    have h1:=h.1
    have h2:=h.2.1
    have:=rCut_len0 hr (a:=x.Hi) h.2.2 (by unfold rGood at h1;omega)
    rw [rCut_cons,List.length_append,List.length_cons]
    unfold cut1
    unfold rGood at hr
    rw [if_neg (by omega)]
    split <;> simp <;> omega
theorem rCut_len {r:DRange} (hr:rGood r):∀ {l:List DRange} {a:Int},rSet a l→(rCut l r).length≤l.length+1
  | [],_,_=>by simp [rCut]
  | x :: l,a,h=>by
    have h1:=h.1
    have h3:=rCut_len hr (a:=x.Hi) h.2.2
    rw [rCut_cons,List.length_append,List.length_cons]
    unfold cut1
    by_cases hc:r.Hi<x.Hi
    · have:=rCut_len0 hr (a:=x.Hi) h.2.2 (by omega)
      rw [if_pos hc]
      split <;> simp <;> omega
    · rw [if_neg hc]
      split <;> simp <;> omega
theorem rCut_set {r:DRange} (hr:rGood r):∀ {l:List DRange} {a:Int},rSet a l→rSet a (rCut l r)
  | [],_,_=>trivial
  | x :: l,a,h=>by
    have h1:=h.1
    have h2:=h.2.1
    have h3:=rCut_set hr (a:=x.Hi) h.2.2
    rw [rCut_cons]
    unfold cut1
    unfold rGood at hr h1
    by_cases c1:x.Lo<r.Lo
    · by_cases c2:r.Hi<x.Hi
      · rw [if_pos c1,if_pos c2]
        exact ⟨by unfold rGood;dsimp only;omega,by dsimp only;omega,by unfold rGood;dsimp only;omega,by dsimp only;omega,h3⟩
      · rw [if_pos c1,if_neg c2]
        exact ⟨by unfold rGood;dsimp only;omega,by dsimp only;omega,rSet_weak h3 (by dsimp only;omega)⟩
    · by_cases c2:r.Hi<x.Hi
      · rw [if_neg c1,if_pos c2]
        exact ⟨by unfold rGood;dsimp only;omega,by dsimp only;omega,h3⟩
      · rw [if_neg c1,if_neg c2]
        exact rSet_weak h3 (by omega)
theorem rFlt_set {l:List DRange} (h:rFlt l=0):rSet (-2) l:=by
  unfold rFlt at h
  split at h
  · assumption
  · cases h
theorem rgFlt_ok {l:List DRange} {r:DRange} (h:rgFlt l r=0):rSet (-2) l∧rGood r:=by
  unfold rgFlt at h
  split at h
  · omega
  · split at h
    · exact ⟨rFlt_set (by omega),by assumption⟩
    · cases h
def rCutR (l:List DRange) (r:DRange):List DRange×Int:=if rgFlt l r≠0 then ([],rgFlt l r) else (rCut l r,0)
theorem take_flat {l:List DRange} {k:Nat} (h:k<l.length) (r:DRange):rCut (l.take (k+1)) r=rCut (l.take k) r++cut1 r (l.getD k default):=by
  rw [take_snoc h,rCut_app,rCut_one]
theorem cut_fn (l:List DRange) (r:DRange) (hw:∀ y,y ∈ l→wfRange y) (hl:l.length * 16≤140737488355312):Fn Tryz.prog 292 [.ro (l.map encRange),.agg (encRange r)] (.tup [.ro ((rCutR l r).1.map encRange),.lit (.int .i64 (rCutR l r).2)]):=by
  have h1:=rangesFaultR_fn l r hw hl
  unfold rCutR
  by_cases h0:rgFlt l r=0
  · obtain ⟨hs,hr⟩:=rgFlt_ok h0
    rw [h0] at h1 ⊢
    rw [if_neg (by omega)]
    unfold rGood at hr
    refine fn_of_run (by kernel_rfl) Tryz.func292 rfl (by kernel_rfl) ?_
    (repeat' first|(refine s_call (h1) (h:=?_))|(refine p_call (h1) (h:=?_))|(refine go_ ?_;((repeat' first|exact True.intro|refine Two.mk ?_ ?_);all_goals intros))|fail "")
    refine r_for (fun k:Nat=>⟨[(3,.ptr 0 0 0 0),(16,.ro (l.map encRange)),(17,.lit (.int .i64 l.length)),(18,.lit (.int .i64 k)),(7,.own 1)],[(0,some (.box 146 (encRange r))),(1,some (.row 146 2 ((rCut (l.take k) r).map encRange)))],2,Tryz.f292.ntmps⟩)
      (fun k=>k≤l.length) (fun k=>l.length - k) 0 (Nat.zero_le _) ((less_own (n:=1) (t:=7) 146 2 rfl rfl rfl).trans less_to) ?_
    intro k hk
    by_cases hkn:k<l.length
    · obtain ⟨hx,hx2⟩:=rSet_good hs _ (getD_mem hkn)
      have htk:=take_flat hkn r
      have hlen:=rCut_len (r:=r) hr (rSet_take (k+1) hs)
      have hlt:(l.take (k+1)).length≤l.length:=by rw [List.length_take];omega
      rw [htk] at hlen
      unfold cut1 at htk hlen
      unfold rGood at hx
      by_cases c1:(l.getD k default).Lo<r.Lo
      · by_cases c2:r.Hi<(l.getD k default).Hi
        · rw [if_pos c1,if_pos c2] at htk hlen
          simp only [List.length_append,List.length_cons,List.length_nil] at hlen
          (repeat' first|(refine s_app (r:=(rCut (l.take k) r++[DRange.mk (l.getD k default).Lo (min (l.getD k default).Hi (r.Lo - 1))]).map encRange) ?_ ?_ ?_ ?_ (h:=?_);(exact Z65_);(exact Z47_);(exact Z12_);(exact Z22_))|(refine s_app0R (r:=(rCut (l.take k) r++[DRange.mk (l.getD k default).Lo (min (l.getD k default).Hi (r.Lo - 1))]).map encRange) ?_ ?_ ?_ ?_ (h:=?_);(exact Z65_);(exact Z47_);(exact Z12_);(exact Z22_))|(refine p_app (r:=(rCut (l.take k) r++[DRange.mk (l.getD k default).Lo (min (l.getD k default).Hi (r.Lo - 1))]).map encRange) ?_ ?_ ?_ ?_ (h:=?_);(exact Z65_);(exact Z47_);(exact Z12_);(exact Z22_))|(refine s_app (r:=(rCut (l.take (k+1)) r).map encRange) ?_ ?_ ?_ ?_ (h:=?_);(exact Z39_);(exact Z47_);(exact Z12_);(exact Z22_))|(refine s_app0R (r:=(rCut (l.take (k+1)) r).map encRange) ?_ ?_ ?_ ?_ (h:=?_);(exact Z39_);(exact Z47_);(exact Z12_);(exact Z22_))|(refine p_app (r:=(rCut (l.take (k+1)) r).map encRange) ?_ ?_ ?_ ?_ (h:=?_);(exact Z39_);(exact Z47_);(exact Z12_);(exact Z22_))|(refine go_ ?_;((repeat' first|exact True.intro|refine Two.mk ?_ ?_);all_goals intros))|fail "")
          all_goals (refine ⟨k+1,?_,?_,?_⟩;rotate_left 2;(exact lessA_);(exact Z69_);(exact Z67_))
        · rw [if_pos c1,if_neg c2] at htk hlen
          simp only [List.length_append,List.length_cons,List.length_nil] at hlen
          (repeat' first|(refine s_app (r:=(rCut (l.take (k+1)) r).map encRange) ?_ ?_ ?_ ?_ (h:=?_);(exact Z39_);(exact Z47_);(exact Z12_);(exact Z22_))|(refine s_app0R (r:=(rCut (l.take (k+1)) r).map encRange) ?_ ?_ ?_ ?_ (h:=?_);(exact Z39_);(exact Z47_);(exact Z12_);(exact Z22_))|(refine p_app (r:=(rCut (l.take (k+1)) r).map encRange) ?_ ?_ ?_ ?_ (h:=?_);(exact Z39_);(exact Z47_);(exact Z12_);(exact Z22_))|(refine go_ ?_;((repeat' first|exact True.intro|refine Two.mk ?_ ?_);all_goals intros))|fail "")
          all_goals (refine ⟨k+1,?_,?_,?_⟩;rotate_left 2;(exact lessA_);(exact Z69_);(exact Z67_))
      · by_cases c2:r.Hi<(l.getD k default).Hi
        · rw [if_neg c1,if_pos c2] at htk hlen
          simp only [List.length_append,List.length_cons,List.length_nil] at hlen
          (repeat' first|(refine s_app (r:=(rCut (l.take (k+1)) r).map encRange) ?_ ?_ ?_ ?_ (h:=?_);(exact Z39_);(exact Z47_);(exact Z12_);(exact Z22_))|(refine s_app0R (r:=(rCut (l.take (k+1)) r).map encRange) ?_ ?_ ?_ ?_ (h:=?_);(exact Z39_);(exact Z47_);(exact Z12_);(exact Z22_))|(refine p_app (r:=(rCut (l.take (k+1)) r).map encRange) ?_ ?_ ?_ ?_ (h:=?_);(exact Z39_);(exact Z47_);(exact Z12_);(exact Z22_))|(refine go_ ?_;((repeat' first|exact True.intro|refine Two.mk ?_ ?_);all_goals intros))|fail "")
          all_goals (refine ⟨k+1,?_,?_,?_⟩;rotate_left 2;(exact lessA_);(exact Z69_);(exact Z67_))
        · rw [if_neg c1,if_neg c2,List.append_nil,List.append_nil] at htk
          rw [← htk]
          (repeat' first|(refine go_ ?_;((repeat' first|exact True.intro|refine Two.mk ?_ ?_);all_goals intros))|fail "")
          all_goals (refine ⟨k+1,?_,?_,?_⟩;rotate_left 2;(exact lessA_);(exact Z69_);(exact Z67_))
    · (repeat' first|(refine go_ ?_;((repeat' first|exact True.intro|refine Two.mk ?_ ?_);all_goals intros))|fail "")
      all_goals (refine ends_ (hr:=?_);rw [List.take_of_length_le (by omega)])
  · rw [if_pos h0]
    generalize rgFlt l r=e at *
    refine fn_of_run (by kernel_rfl) Tryz.func292 rfl (by kernel_rfl) ?_
    (repeat' first|(refine s_call (h1) (h:=?_))|(refine p_call (h1) (h:=?_))|(refine go_ ?_;((repeat' first|exact True.intro|refine Two.mk ?_ ?_);all_goals intros))|fail "")
    all_goals (exact endwA_)
def wSt (l:List DRange) (r:DRange) (k:Nat):Nat→List DRange
  | 0=>rCut (l.take k) r
  | 1=>rCut (l.take k) r++(if (l.getD k default).Lo<r.Lo then [DRange.mk (l.getD k default).Lo (min (l.getD k default).Hi (r.Lo - 1))] else [])
  | _=>rCut (l.take (k+1)) r
theorem wSt0 (l:List DRange) (r:DRange) (k:Nat):wSt l r k 0=rCut (l.take k) r:=rfl
theorem wSt1 (l:List DRange) (r:DRange) (k:Nat):wSt l r k 1=rCut (l.take k) r++(if (l.getD k default).Lo<r.Lo then [DRange.mk (l.getD k default).Lo (min (l.getD k default).Hi (r.Lo - 1))] else []):=rfl
theorem wSt2 (l:List DRange) (r:DRange) (k:Nat):wSt l r k 2=rCut (l.take (k+1)) r:=rfl
theorem without_fn (l:List DRange) (r:DRange) (hs:rSet (-2) l) (hr:rGood r) (hl:l.length * 16≤140737488355312):Fn Tryz.prog 262 [.ro (l.map encRange),.agg (encRange r)] (.ro ((rCut l r).map encRange)):=by
  unfold rGood at hr
  refine fn_of_run (by kernel_rfl) Tryz.func262 rfl (by kernel_rfl) ?_
  (repeat' first|(refine go_ ?_;((repeat' first|exact True.intro|refine Two.mk ?_ ?_);all_goals intros))|fail "")
  refine r_for (fun k:Nat=>⟨[(3,.ptr 0 0 0 0),(10,.ro (l.map encRange)),(11,.lit (.int .i64 l.length)),(12,.lit (.int .i64 k)),(5,.own 1)],[(0,some (.box 146 (encRange r))),(1,some (.row 146 2 ((rCut (l.take k) r).map encRange)))],2,Tryz.f262.ntmps⟩)
    (fun k=>k≤l.length) (fun k=>l.length - k) 0 (Nat.zero_le _) ((less_own (n:=1) (t:=5) 146 2 rfl rfl rfl).trans less_to) ?_
  intro k hk
  by_cases hkn:k<l.length
  · obtain ⟨hx,hx2⟩:=rSet_good hs _ (getD_mem hkn)
    have htk:=take_flat hkn r
    have hlen:=rCut_len (r:=r) hr (rSet_take (k+1) hs)
    have hlt:(l.take (k+1)).length≤l.length:=by rw [List.length_take];omega
    rw [htk] at hlen
    unfold cut1 at htk hlen
    unfold rGood at hx
    rw [List.length_append,List.length_append] at hlen
    (repeat' first|(refine go_ ?_;((repeat' first|exact True.intro|refine Two.mk ?_ ?_);all_goals intros))|fail "")
    refine r_for (fun j:Nat=>⟨[(3,.ptr 0 0 0 0),(10,.ro (l.map encRange)),(11,.lit (.int .i64 l.length)),(12,.lit (.int .i64 k)),(34,.ro [[.lit (.int .i64 (l.getD k default).Lo),.lit (.int .i64 (min (l.getD k default).Hi (r.Lo - 1)))],[.lit (.int .i64 (max (l.getD k default).Lo (r.Hi+1))),.lit (.int .i64 (l.getD k default).Hi)]]),(35,.lit (.int .i64 2)),(36,.lit (.int .i64 j)),(5,.own 1)],[(0,some (.box 146 (encRange r))),(1,some (.row 146 2 ((wSt l r k j).map encRange)))],2,Tryz.f262.ntmps⟩)
      (fun j=>j≤2) (fun j=>2 - j) 0 (by omega) less_to ?_
    intro j hj
    obtain rfl|rfl|rfl:j=0∨j=1∨j=2:=by omega
    · have hb:(wSt l r k 0).length≤l.length:=by
        have h2:=rCut_len (r:=r) hr (rSet_take k hs)
        rw [wSt0];rw [List.length_take] at h2;omega
      by_cases c1:(l.getD k default).Lo<r.Lo
      · (repeat' first|(refine s_app (r:=(wSt l r k 1).map encRange) ?_ ?_ ?_ ?_ (h:=?_);(exact Z49_);(exact Z47_);(exact Z12_);(exact Z22_))|(refine s_app0R (r:=(wSt l r k 1).map encRange) ?_ ?_ ?_ ?_ (h:=?_);(exact Z49_);(exact Z47_);(exact Z12_);(exact Z22_))|(refine p_app (r:=(wSt l r k 1).map encRange) ?_ ?_ ?_ ?_ (h:=?_);(exact Z49_);(exact Z47_);(exact Z12_);(exact Z22_))|(refine go_ ?_;((repeat' first|exact True.intro|refine Two.mk ?_ ?_);all_goals intros))|fail "")
        all_goals (refine ⟨1,?_,?_,?_⟩;rotate_left 2;(exact lessA_);(exact Z69_);(exact Z69_))
      · have he:(wSt l r k 0).map encRange=(wSt l r k 1).map encRange:=by rw [wSt0,wSt1,if_neg c1,List.append_nil]
        (repeat' first|(refine go_ ?_;((repeat' first|exact True.intro|refine Two.mk ?_ ?_);all_goals intros))|fail "")
        all_goals (refine ⟨1,?_,?_,?_⟩;rotate_left 2;(exact lessA_);(exact Z69_);(exact Z69_))
    · by_cases c2:r.Hi<(l.getD k default).Hi
      · have hb:(wSt l r k 1).length≤l.length:=by rw [wSt1,List.length_append];rw [if_pos c2] at hlen;simp only [List.length_cons,List.length_nil] at hlen;omega
        (repeat' first|(refine s_app (r:=(wSt l r k 2).map encRange) ?_ ?_ ?_ ?_ (h:=?_);(exact Z21_);(exact Z47_);(exact Z12_);(exact Z22_))|(refine s_app0R (r:=(wSt l r k 2).map encRange) ?_ ?_ ?_ ?_ (h:=?_);(exact Z21_);(exact Z47_);(exact Z12_);(exact Z22_))|(refine p_app (r:=(wSt l r k 2).map encRange) ?_ ?_ ?_ ?_ (h:=?_);(exact Z21_);(exact Z47_);(exact Z12_);(exact Z22_))|(refine go_ ?_;((repeat' first|exact True.intro|refine Two.mk ?_ ?_);all_goals intros))|fail "")
        all_goals (refine ⟨2,?_,?_,?_⟩;rotate_left 2;(exact lessA_);(exact Z69_);(exact Z69_))
      · have he:(wSt l r k 1).map encRange=(wSt l r k 2).map encRange:=by rw [wSt1,wSt2,htk,if_neg c2,List.append_nil]
        (repeat' first|(refine go_ ?_;((repeat' first|exact True.intro|refine Two.mk ?_ ?_);all_goals intros))|fail "")
        all_goals (refine ⟨2,?_,?_,?_⟩;rotate_left 2;(exact lessA_);(exact Z69_);(exact Z69_))
    · skip
      (repeat' first|(refine go_ ?_;((repeat' first|exact True.intro|refine Two.mk ?_ ?_);all_goals intros))|fail "")
      all_goals (refine ⟨k+1,?_,?_,?_⟩;rotate_left 2;(exact lessA_);(exact Z69_);(exact Z67_))
  · (repeat' first|(refine go_ ?_;((repeat' first|exact True.intro|refine Two.mk ?_ ?_);all_goals intros))|fail "")
    all_goals (refine ends_ (hr:=?_);rw [List.take_of_length_le (by omega)])
end Go.Proofs.YtendheafcbickaaGreat
