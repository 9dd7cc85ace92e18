
import Derived.Test.YtendheafcbickaaGreatHZip
import Derived.Test.YtendheafcbickaaGreatHGo
import Derived.Test.YtendheafcbickaaGreatHMg27
import Derived.Test.YtendheafcbickaaGreatHMg22
set_option linter.unusedVariables false
set_option linter.unusedSimpArgs false
set_option linter.unusedVariables false
namespace Go.Proofs.YtendheafcbickaaGreat
set_option maxRecDepth 100000
attribute [local irreducible] Run RunL QStep GStep Fn Less PL FnM
theorem wordV_of (st:Int) (q:Nat):mixV (IntKind.u64.wrap (st+((8 * q:Nat):Int) / 8))=((wordV st q:Nat):Int):=by
  unfold wordV
  rw [show ((8 * q:Nat):Int) / 8=(q:Int) by omega]
  have:=mixV_range (IntKind.u64.wrap (st+(q:Int)))
  rw [Int.toNat_of_nonneg this.1]
theorem ks_of (st:Int) (q j:Nat) (h:j<8):IntKind.u8.wrap ((wordV st q / 256 ^ j:Nat):Int)=((ks st (8 * q+j)).toNat:Int):=by
  unfold ks
  rw [u8_val,show (8 * q+j) / 8=q by omega,show (8 * q+j) % 8=j by omega]
theorem turn_step (st:Int) (l:List UInt8) {i:Nat} (h:i<l.length):(turnG st 0 l).take i++[l.getD i default ^^^ ks st i]=(turnG st 0 l).take (i+1):=by
  have hg:=turnG_get st l 0 i h
  rw [Nat.zero_add] at hg
  rw [take_snoc (by rw [turnG_length];exact h),hg]
set_option maxHeartbeats 1000000 in
theorem stream_fn (key n:Int) (l:List UInt8) (hl:l.length≤140737488355328):Fn Tryz.prog 267 [.lit (.int .u64 key),.lit (.int .i64 n),.lit (.string (strB l))] (.lit (.string (strB (turnB key n l)))):=by
  have hs:startV key n=mixV (bitsI .xor .u64 (mixV (IntKind.u64.wrap n)) key):=by unfold startV;rw [bitsI_xor_comm]
  unfold turnB
  rw [hs]
  refine fn_of_run (by kernel_rfl) Tryz.func267 rfl (by kernel_rfl) ?_
  (repeat' first|(refine s_call (mixed_fn _) (h:=?_))|(refine p_call (mixed_fn _) (h:=?_))|(refine go_ ?_;((repeat' first|exact True.intro|refine Two.mk ?_ ?_);all_goals intros))|fail "")
  generalize mixV (bitsI .xor .u64 (mixV (IntKind.u64.wrap n)) key)=st
  have htl:=turnG_length st l 0
  refine r_for (fun q:Nat=>⟨[(2,.lit (.string (strB l))),(7,.lit (.int .u64 st)),(8,.lit (.string (strB ((turnG st 0 l).take (8 * q))))),(9,.lit (.int .i64 ((8 * q:Nat):Int)))],[],0,Tryz.f267.ntmps⟩)
    (fun q=>8 * q≤l.length+7) (fun q=>l.length+8 - 8 * q) 0 (by omega) (by (exact lessA_)) ?_
  intro q hq
  have e0:=wordV_of st q
  by_cases hqn:8 * q<l.length
  · (repeat' first|(refine s_call (mixed_fn _) (h:=?_))|(refine p_call (mixed_fn _) (h:=?_))|(refine go_ ?_;((repeat' first|exact True.intro|refine Two.mk ?_ ?_);all_goals intros))|fail "")
    rw [e0]
    refine r_for (fun j:Nat=>⟨[(2,.lit (.string (strB l))),(7,.lit (.int .u64 st)),(8,.lit (.string (strB ((turnG st 0 l).take (8 * q+j))))),(9,.lit (.int .i64 ((8 * q:Nat):Int))),(10,.lit (.int .u64 ((wordV st q / 256 ^ j:Nat):Int))),(11,.lit (.int .i64 ((8 * q+j:Nat):Int)))],[],0,Tryz.f267.ntmps⟩)
      (fun j=>j≤8∧8 * q+j≤l.length) (fun j=>8 - j) 0 (by omega) (by (exact lessA_)) ?_
    rintro j ⟨hj,hjl⟩
    have htk:((turnG st 0 l).take (8 * q+j)).length≤l.length:=by rw [List.length_take];omega
    by_cases hx:j<8∧8 * q+j<l.length
    · have e1:=shr8 (wordV st q) j
      have e2:=turn_step st l hx.2
      have e3:some [[V.lit (.int .u8 (bitsI .xor .u8 ((l.getD (8 * q+j) default).toNat:Int) (IntKind.u8.wrap ((wordV st q / 256 ^ j:Nat):Int))))]]=some ([l.getD (8 * q+j) default ^^^ ks st (8 * q+j)].map encB):=by
        rw [ks_of st q j hx.1,xor8];rfl
      (repeat' first|(refine s_bstr (l:=[l.getD (8 * q+j) default ^^^ ks st (8 * q+j)]) (hv:=?_) (h:=?_);(focus exact e3))|(refine s_sadd (r:=(turnG st 0 l).take (8 * q+j+1)) ?_ ?_ (h:=?_);(focus (exact e2));(exact Z11_))|(refine p_sadd (r:=(turnG st 0 l).take (8 * q+j+1)) ?_ ?_ (h:=?_);(focus (exact e2));(exact Z11_))|(refine goI_ ?_;((repeat' first|exact True.intro|refine Two.mk ?_ ?_);all_goals intros))|refine s_i (h:=?_)|refine s_i (hq:=q_index_ro rfl rfl rfl (by first|exact lit0|exact lit1|exact lit2|exact lit3|rfl) (by simp only [List.length_cons,List.length_nil];omega) rfl rfl rfl rfl) (h:=?_)|refine p_i (h:=?_)|refine p_ih (h:=?_)|refine s_lit (h:=?_)|refine p_lit (h:=?_)|refine p_lit0 (h:=?_)|refine s_lit0 (h:=?_)|refine s_ixa (h:=?_)|refine s_insert (h:=?_)|(refine s_sadd rfl ?_ (h:=?_);(exact Z11_))|(refine p_sadd rfl ?_ (h:=?_);(exact Z11_))|fail "")
      all_goals (rw [e1];(refine ⟨j+1,?_,?_,?_⟩;rotate_left 2;(exact lessA_);(exact Z69_);(exact Z69_)))
    · have ht:(turnG st 0 l).take (8 * q+j)=(turnG st 0 l).take (8 * (q+1)):=by
        by_cases hj8:j=8
        · rw [hj8];rfl
        · rw [List.take_of_length_le (by omega),List.take_of_length_le (by omega)]
      rw [ht]
      (repeat' first|(refine go_ ?_;((repeat' first|exact True.intro|refine Two.mk ?_ ?_);all_goals intros))|fail "")
      all_goals (refine ⟨q+1,?_,?_,?_⟩;rotate_left 2;(exact lessA_);(exact Z69_);(exact Z69_))
  · (repeat' first|(refine go_ ?_;((repeat' first|exact True.intro|refine Two.mk ?_ ?_);all_goals intros))|fail "")
    all_goals (refine ends_ (hr:=?_);rw [List.take_of_length_le (by omega)])
def encQ (p:List UInt8):List V:=[.lit (.string (strB p))]
set_option maxHeartbeats 1000000 in
theorem tagOf_fn (key n:Int) (ps:List (List UInt8)) (hp:ps.length≤1000) (hl:∀ p,p ∈ ps→p.length≤140737488355328):Fn Tryz.prog 283 [.lit (.int .u64 key),.lit (.int .i64 n),.ro (ps.map encQ)] (.lit (.string (strB (tagB key n ps)))):=by
  have hr:=tagV_range key n ps
  unfold tagB
  unfold tagV at *
  rw [bitsI_xor_comm] at *
  refine fn_of_run (by kernel_rfl) Tryz.func283 rfl (by kernel_rfl) ?_
  (repeat' first|(refine s_call (mixed_fn _) (h:=?_))|(refine p_call (mixed_fn _) (h:=?_))|(refine go_ ?_;((repeat' first|exact True.intro|refine Two.mk ?_ ?_);all_goals intros))|fail "")
  generalize bitsI .xor .u64 (IntKind.u64.wrap n) (mixV key)=h0 at *
  refine r_for (fun k:Nat=>⟨[(7,.lit (.int .u64 ((ps.take k).foldl tagH h0))),(16,.ro (ps.map encQ)),(17,.lit (.int .i64 ps.length)),(18,.lit (.int .i64 k))],[],0,Tryz.f283.ntmps⟩)
    (fun k=>k≤ps.length) (fun k=>ps.length - k) 0 (by omega) less_to ?_
  intro k hk
  by_cases hkn:k<ps.length
  · have hb:=hl _ (getD_mem hkn)
    have e:(ps.take (k+1)).foldl tagH h0=mixV (bitsI .xor .u64 (hashB ((ps.take k).foldl tagH h0) (ps.getD k default)) (((ps.getD k default).length * 256:Nat):Int)):=by rw [take_snoc hkn,List.foldl_append];rfl
    generalize hH:(ps.take k).foldl tagH h0=H at e ⊢
    generalize hB:ps.getD k default=b at hb e ⊢
    rw [show ((b.length * 256:Nat):Int)=256 * (b.length:Int) by omega] at e
    (repeat' first|(refine go_ ?_;((repeat' first|exact True.intro|refine Two.mk ?_ ?_);all_goals intros))|fail "")
    rw [hB]
    refine r_for (fun j:Nat=>⟨[(7,.lit (.int .u64 (hashB H (b.take j)))),(9,.lit (.string (strB b))),(10,.lit (.int .i64 j)),(16,.ro (ps.map encQ)),(17,.lit (.int .i64 ps.length)),(18,.lit (.int .i64 k))],[],0,Tryz.f283.ntmps⟩)
      (fun j=>j≤b.length) (fun j=>b.length - j) 0 (by omega) less_to ?_
    intro j hj
    by_cases hjb:j<b.length
    · have hc:=(b.getD j default).toNat_lt
      have e2:hashB H (b.take (j+1))=mixV (bitsI .xor .u64 ((b.getD j default).toNat:Int) (hashB H (b.take j))):=by rw [take_snoc hjb,hashB_snoc,bitsI_xor_comm]
      (repeat' first|(refine s_call (mixed_fn _) (h:=?_))|(refine p_call (mixed_fn _) (h:=?_))|(refine go_ ?_;((repeat' first|exact True.intro|refine Two.mk ?_ ?_);all_goals intros))|fail "")
      all_goals (refine ⟨j+1,?_,?_,?_⟩;rotate_left 2;(exact lessA_);(exact Z69_);(exact Z69_))
    · have:j=b.length:=by omega
      subst this
      rw [List.take_length]
      (repeat' first|(refine s_call (mixed_fn _) (h:=?_))|(refine p_call (mixed_fn _) (h:=?_))|(refine go_ ?_;((repeat' first|exact True.intro|refine Two.mk ?_ ?_);all_goals intros))|fail "")
      all_goals (rw [← e];(refine ⟨k+1,?_,?_,?_⟩;rotate_left 2;(exact lessA_);(exact Z69_);(exact Z69_)))
  · have:k=ps.length:=by omega
    subst this
    rw [List.take_length]
    generalize ps.foldl tagH h0=x at *
    obtain ⟨m,rfl⟩:=Int.eq_ofNat_of_zero_le hr.1
    rw [Int.toNat_natCast]
    (repeat' first|(refine s_call (big8_fn _) (h:=?_))|(refine p_call (big8_fn _) (h:=?_))|(refine go_ ?_;((repeat' first|exact True.intro|refine Two.mk ?_ ?_);all_goals intros))|fail "")
    all_goals exact ends_ (hr:=rfl)
theorem tag2_fn (key n:Int) (h t:List UInt8) (hh:h.length≤140737488355328) (ht:t.length≤140737488355328):Fn Tryz.prog 265 [.lit (.int .u64 key),.lit (.int .i64 n),.ro [[.ro (h.map encB)],[.ro (t.map encB)]]] (.ro ((tagB key n [h,t]).map encB)):=
  tag_fn key n [h,t] (by simp) (fun p hp=>by rcases List.mem_cons.1 hp with rfl|hp;exact hh;rcases List.mem_cons.1 hp with rfl|hp;exact ht;cases hp)
theorem tagOf2_fn (key n:Int) (h t:List UInt8) (hh:h.length≤140737488355328) (ht:t.length≤140737488355328):Fn Tryz.prog 283 [.lit (.int .u64 key),.lit (.int .i64 n),.ro [[.lit (.string (strB h))],[.lit (.string (strB t))]]] (.lit (.string (strB (tagB key n [h,t])))):=
  tagOf_fn key n [h,t] (by simp) (fun p hp=>by rcases List.mem_cons.1 hp with rfl|hp;exact hh;rcases List.mem_cons.1 hp with rfl|hp;exact ht;cases hp)
theorem seal_own (key n:Int) (h t:List UInt8) (hh:h.length≤140737488355328) (ht:t.length≤140737488355300):FnM Tryz.prog 216 [.lit (.int .u64 key),.lit (.int .i64 n),.ro (h.map encB),.ro (t.map encB)] [] 0 (.own 0) [(0,some (.row 5 1 ((sealB key n h t).map encB)))] 1:=by
  have h1:=turned_fnm key n t (by omega)
  have h2:=tag2_fn key n h t hh (by omega)
  have l1:=turnB_length key n t
  have l2:=tagB_length key n [h,t]
  unfold sealB
  generalize turnB key n t=x at *
  generalize tagB key n [h,t]=y at *
  refine fnm_of_run (by kernel_rfl) Tryz.func216 rfl (by kernel_rfl) (by rfl) ?_
  (repeat' first|(refine s_callM [] (h1) (h:=?_))|(refine s_call (h2) (h:=?_))|(refine p_call (h2) (h:=?_))|(refine s_app (r:=(x++y).map encB) ?_ ?_ ?_ ?_ (h:=?_);(exact Z65_);(exact Z47_);(exact Z12_);(exact Z22_))|(refine s_app0R (r:=(x++y).map encB) ?_ ?_ ?_ ?_ (h:=?_);(exact Z65_);(exact Z47_);(exact Z12_);(exact Z22_))|(refine p_app (r:=(x++y).map encB) ?_ ?_ ?_ ?_ (h:=?_);(exact Z65_);(exact Z47_);(exact Z12_);(exact Z22_))|(refine go_ ?_;((repeat' first|exact True.intro|refine Two.mk ?_ ?_);all_goals intros))|fail "")
  all_goals (exact endmA_)
theorem locked_fn (key n:Int) (h t:List UInt8) (hh:h.length≤140737488355328) (ht:t.length≤140737488355328):Fn Tryz.prog 227 [.lit (.int .u64 key),.lit (.int .i64 n),.lit (.string (strB h)),.lit (.string (strB t))] (.lit (.string (strB (sealB key n h t)))):=by
  have h1:=stream_fn key n t ht
  have h2:=tagOf2_fn key n h t hh ht
  have l1:=turnB_length key n t
  have l2:=tagB_length key n [h,t]
  unfold sealB
  generalize turnB key n t=x at *
  generalize tagB key n [h,t]=y at *
  refine fn_of_run (by kernel_rfl) Tryz.func227 rfl (by kernel_rfl) ?_
  (repeat' first|(refine s_call (h1) (h:=?_))|(refine p_call (h1) (h:=?_))|(refine s_call (h2) (h:=?_))|(refine p_call (h2) (h:=?_))|(refine go_ ?_;((repeat' first|exact True.intro|refine Two.mk ?_ ?_);all_goals intros))|fail "")
  all_goals exact ends_ (hr:=rfl)
noncomputable def openB (key n:Int) (h s:List UInt8):List UInt8×Int:=
  if s.length<8 then ([],4) else if tagB key n [h,turnB key n (s.take (s.length - 8))]=s.drop (s.length - 8) then (turnB key n (s.take (s.length - 8)),0) else ([],10)
end Go.Proofs.YtendheafcbickaaGreat
