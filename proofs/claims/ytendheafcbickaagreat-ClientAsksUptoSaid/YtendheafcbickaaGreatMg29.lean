/-
  SEVERAL TEXTS IN ONE: each with its own comment.
-/
import Derived.Test.YtendheafcbickaaGreatZip
import Derived.Test.YtendheafcbickaaGreatGo
import Derived.Test.YtendheafcbickaaGreatMg28
import Derived.Test.YtendheafcbickaaGreatMg24
import Derived.Test.YtendheafcbickaaGreatAbsB
import Derived.Test.YtendheafcbickaaGreatMg26

set_option linter.unusedVariables false
set_option linter.unusedSimpArgs false
set_option linter.unusedVariables false
namespace Go.Proofs.YtendheafcbickaaGreat
set_option maxRecDepth 100000
attribute [local irreducible] Run RunL QStep GStep Fn Less PL FnM
theorem wordV_of (st:Int) (q:Nat):mixV (IntKind.u64.wrap (st+((8 * q:Nat):Int) / 8))=((wordV st q:Nat):Int):=by
  unfold wordV
  rw [show ((8 * q:Nat):Int) / 8=(q:Int) by omega]
  have:=mixV_range (IntKind.u64.wrap (st+(q:Int)))
  rw [Int.toNat_of_nonneg this.1]
theorem ks_of (st:Int) (q j:Nat) (h:j<8):IntKind.u8.wrap ((wordV st q / 256 ^ j:Nat):Int)=((ks st (8 * q+j)).toNat:Int):=by
  unfold ks
  rw [u8_val,show (8 * q+j) / 8=q by omega,show (8 * q+j) % 8=j by omega]
theorem turn_step (st:Int) (l:List UInt8) {i:Nat} (h:i<l.length):(turnG st 0 l).take i++[l.getD i default ^^^ ks st i]=(turnG st 0 l).take (i+1):=by
  have hg:=turnG_get st l 0 i h
  rw [Nat.zero_add] at hg
  rw [take_snoc (by rw [turnG_length];exact h),hg]
set_option maxHeartbeats 1000000 in
theorem stream_fn (key n:Int) (l:List UInt8) (hl:l.length≤140737488355328):Fn Tryz.prog 267 [.lit (.int .u64 key),.lit (.int .i64 n),.lit (.string (strB l))] (.lit (.string (strB (turnB key n l)))):=by
  have hs:startV key n=mixV (bitsI .xor .u64 (mixV (IntKind.u64.wrap n)) key):=by unfold startV;rw [bitsI_xor_comm]
  unfold turnB
  rw [hs]
  refine fn_of_run (by kernel_rfl) Tryz.func267 rfl (by kernel_rfl) ?_
  (repeat' first|(refine s_call (mixed_fn _) (h:=?_))|(refine p_call (mixed_fn _) (h:=?_))|(refine go_ ?_;((repeat' first|exact True.intro|refine Two.mk ?_ ?_);all_goals intros))|fail "")
  generalize mixV (bitsI .xor .u64 (mixV (IntKind.u64.wrap n)) key)=st
  have htl:=turnG_length st l 0
  refine r_for (fun q:Nat=>⟨[(2,.lit (.string (strB l))),(7,.lit (.int .u64 st)),(8,.lit (.string (strB ((turnG st 0 l).take (8 * q))))),(9,.lit (.int .i64 ((8 * q:Nat):Int)))],[],0,Tryz.f267.ntmps⟩)
    (fun q=>8 * q≤l.length+7) (fun q=>l.length+8 - 8 * q) 0 (by omega) (by (exact lessA_)) ?_
  intro q hq
  have e0:=wordV_of st q
  by_cases hqn:8 * q<l.length
  · (repeat' first|(refine s_call (mixed_fn _) (h:=?_))|(refine p_call (mixed_fn _) (h:=?_))|(refine go_ ?_;((repeat' first|exact True.intro|refine Two.mk ?_ ?_);all_goals intros))|fail "")
    rw [e0]
    refine r_for (fun j:Nat=>⟨[(2,.lit (.string (strB l))),(7,.lit (.int .u64 st)),(8,.lit (.string (strB ((turnG st 0 l).take (8 * q+j))))),(9,.lit (.int .i64 ((8 * q:Nat):Int))),(10,.lit (.int .u64 ((wordV st q / 256 ^ j:Nat):Int))),(11,.lit (.int .i64 ((8 * q+j:Nat):Int)))],[],0,Tryz.f267.ntmps⟩)
      (fun j=>j≤8∧8 * q+j≤l.length) (fun j=>8 - j) 0 (by omega) (by (exact lessA_)) ?_
    rintro j ⟨hj,hjl⟩
    have htk:((turnG st 0 l).take (8 * q+j)).length≤l.length:=by rw [List.length_take];omega
    by_cases hx:j<8∧8 * q+j<l.length
    · have e1:=shr8 (wordV st q) j
      have e2:=turn_step st l hx.2
      have e3:some [[V.lit (.int .u8 (bitsI .xor .u8 ((l.getD (8 * q+j) default).toNat:Int) (IntKind.u8.wrap ((wordV st q / 256 ^ j:Nat):Int))))]]=some ([l.getD (8 * q+j) default ^^^ ks st (8 * q+j)].map encB):=by
        rw [ks_of st q j hx.1,xor8];rfl
      (repeat' first|(refine s_bstr (l:=[l.getD (8 * q+j) default ^^^ ks st (8 * q+j)]) (hv:=?_) (h:=?_);(focus exact e3))|(refine s_sadd (r:=(turnG st 0 l).take (8 * q+j+1)) ?_ ?_ (h:=?_);(focus (exact e2));(exact Z9_))|(refine p_sadd (r:=(turnG st 0 l).take (8 * q+j+1)) ?_ ?_ (h:=?_);(focus (exact e2));(exact Z9_))|(refine goI_ ?_;((repeat' first|exact True.intro|refine Two.mk ?_ ?_);all_goals intros))|refine s_i (h:=?_)|refine s_i (hq:=q_index_ro rfl rfl rfl (by first|exact lit0|exact lit1|exact lit2|rfl) (by simp only [List.length_cons,List.length_nil];omega) rfl rfl rfl rfl) (h:=?_)|refine p_i (h:=?_)|refine p_ih (h:=?_)|refine s_lit (h:=?_)|refine p_lit (h:=?_)|refine p_lit0 (h:=?_)|refine s_lit0 (h:=?_)|refine s_ixa (h:=?_)|refine s_insert (h:=?_)|(refine s_sadd rfl ?_ (h:=?_);(exact Z9_))|(refine p_sadd rfl ?_ (h:=?_);(exact Z9_))|fail "")
      all_goals (rw [e1];(refine ⟨j+1,?_,?_,?_⟩;rotate_left 2;(exact lessA_);(exact Z69_);(exact Z69_)))
    · have ht:(turnG st 0 l).take (8 * q+j)=(turnG st 0 l).take (8 * (q+1)):=by
        by_cases hj8:j=8
        · rw [hj8];rfl
        · rw [List.take_of_length_le (by omega),List.take_of_length_le (by omega)]
      rw [ht]
      (repeat' first|(refine go_ ?_;((repeat' first|exact True.intro|refine Two.mk ?_ ?_);all_goals intros))|fail "")
      all_goals (refine ⟨q+1,?_,?_,?_⟩;rotate_left 2;(exact lessA_);(exact Z69_);(exact Z69_))
  · (repeat' first|(refine go_ ?_;((repeat' first|exact True.intro|refine Two.mk ?_ ?_);all_goals intros))|fail "")
    all_goals (refine ends_ (hr:=?_);rw [List.take_of_length_le (by omega)])
def encQ (p:List UInt8):List V:=[.lit (.string (strB p))]
set_option maxHeartbeats 1000000 in
theorem tagOf_fn (key n:Int) (ps:List (List UInt8)) (hp:ps.length≤1000) (hl:∀ p,p ∈ ps→p.length≤140737488355328):Fn Tryz.prog 283 [.lit (.int .u64 key),.lit (.int .i64 n),.ro (ps.map encQ)] (.lit (.string (strB (tagB key n ps)))):=by
  have hr:=tagV_range key n ps
  unfold tagB
  unfold tagV at *
  rw [bitsI_xor_comm] at *
  refine fn_of_run (by kernel_rfl) Tryz.func283 rfl (by kernel_rfl) ?_
  (repeat' first|(refine s_call (mixed_fn _) (h:=?_))|(refine p_call (mixed_fn _) (h:=?_))|(refine go_ ?_;((repeat' first|exact True.intro|refine Two.mk ?_ ?_);all_goals intros))|fail "")
  generalize bitsI .xor .u64 (IntKind.u64.wrap n) (mixV key)=h0 at *
  refine r_for (fun k:Nat=>⟨[(7,.lit (.int .u64 ((ps.take k).foldl tagH h0))),(16,.ro (ps.map encQ)),(17,.lit (.int .i64 ps.length)),(18,.lit (.int .i64 k))],[],0,Tryz.f283.ntmps⟩)
    (fun k=>k≤ps.length) (fun k=>ps.length - k) 0 (by omega) less_to ?_
  intro k hk
  by_cases hkn:k<ps.length
  · have hb:=hl _ (getD_mem hkn)
    have e:(ps.take (k+1)).foldl tagH h0=mixV (bitsI .xor .u64 (hashB ((ps.take k).foldl tagH h0) (ps.getD k default)) (((ps.getD k default).length * 256:Nat):Int)):=by rw [take_snoc hkn,List.foldl_append];rfl
    generalize hH:(ps.take k).foldl tagH h0=H at e ⊢
    generalize hB:ps.getD k default=b at hb e ⊢
    rw [show ((b.length * 256:Nat):Int)=256 * (b.length:Int) by omega] at e
    (repeat' first|(refine go_ ?_;((repeat' first|exact True.intro|refine Two.mk ?_ ?_);all_goals intros))|fail "")
    rw [hB]
    refine r_for (fun j:Nat=>⟨[(7,.lit (.int .u64 (hashB H (b.take j)))),(9,.lit (.string (strB b))),(10,.lit (.int .i64 j)),(16,.ro (ps.map encQ)),(17,.lit (.int .i64 ps.length)),(18,.lit (.int .i64 k))],[],0,Tryz.f283.ntmps⟩)
      (fun j=>j≤b.length) (fun j=>b.length - j) 0 (by omega) less_to ?_
    intro j hj
    by_cases hjb:j<b.length
    · have hc:=(b.getD j default).toNat_lt
      have e2:hashB H (b.take (j+1))=mixV (bitsI .xor .u64 ((b.getD j default).toNat:Int) (hashB H (b.take j))):=by rw [take_snoc hjb,hashB_snoc,bitsI_xor_comm]
      (repeat' first|(refine s_call (mixed_fn _) (h:=?_))|(refine p_call (mixed_fn _) (h:=?_))|(refine go_ ?_;((repeat' first|exact True.intro|refine Two.mk ?_ ?_);all_goals intros))|fail "")
      all_goals (refine ⟨j+1,?_,?_,?_⟩;rotate_left 2;(exact lessA_);(exact Z69_);(exact Z69_))
    · have:j=b.length:=by omega
      subst this
      rw [List.take_length]
      (repeat' first|(refine s_call (mixed_fn _) (h:=?_))|(refine p_call (mixed_fn _) (h:=?_))|(refine go_ ?_;((repeat' first|exact True.intro|refine Two.mk ?_ ?_);all_goals intros))|fail "")
      all_goals (rw [← e];(refine ⟨k+1,?_,?_,?_⟩;rotate_left 2;(exact lessA_);(exact Z69_);(exact Z69_)))
  · have:k=ps.length:=by omega
    subst this
    rw [List.take_length]
    generalize ps.foldl tagH h0=x at *
    obtain ⟨m,rfl⟩:=Int.eq_ofNat_of_zero_le hr.1
    rw [Int.toNat_natCast]
    (repeat' first|(refine s_call (big8_fn _) (h:=?_))|(refine p_call (big8_fn _) (h:=?_))|(refine go_ ?_;((repeat' first|exact True.intro|refine Two.mk ?_ ?_);all_goals intros))|fail "")
    all_goals exact ends_ (hr:=rfl)
theorem tag2_fn (key n:Int) (h t:List UInt8) (hh:h.length≤140737488355328) (ht:t.length≤140737488355328):Fn Tryz.prog 265 [.lit (.int .u64 key),.lit (.int .i64 n),.ro [[.ro (h.map encB)],[.ro (t.map encB)]]] (.ro ((tagB key n [h,t]).map encB)):=
  tag_fn key n [h,t] (by simp) (fun p hp=>by rcases List.mem_cons.1 hp with rfl|hp;exact hh;rcases List.mem_cons.1 hp with rfl|hp;exact ht;cases hp)
theorem tagOf2_fn (key n:Int) (h t:List UInt8) (hh:h.length≤140737488355328) (ht:t.length≤140737488355328):Fn Tryz.prog 283 [.lit (.int .u64 key),.lit (.int .i64 n),.ro [[.lit (.string (strB h))],[.lit (.string (strB t))]]] (.lit (.string (strB (tagB key n [h,t])))):=
  tagOf_fn key n [h,t] (by simp) (fun p hp=>by rcases List.mem_cons.1 hp with rfl|hp;exact hh;rcases List.mem_cons.1 hp with rfl|hp;exact ht;cases hp)
theorem seal_own (key n:Int) (h t:List UInt8) (hh:h.length≤140737488355328) (ht:t.length≤140737488355300):FnM Tryz.prog 216 [.lit (.int .u64 key),.lit (.int .i64 n),.ro (h.map encB),.ro (t.map encB)] [] 0 (.own 0) [(0,some (.row 5 1 ((sealB key n h t).map encB)))] 1:=by
  have h1:=turned_fnm key n t (by omega)
  have h2:=tag2_fn key n h t hh (by omega)
  have l1:=turnB_length key n t
  have l2:=tagB_length key n [h,t]
  unfold sealB
  generalize turnB key n t=x at *
  generalize tagB key n [h,t]=y at *
  refine fnm_of_run (by kernel_rfl) Tryz.func216 rfl (by kernel_rfl) (by rfl) ?_
  (repeat' first|(refine s_callM [] (h1) (h:=?_))|(refine s_call (h2) (h:=?_))|(refine p_call (h2) (h:=?_))|(refine s_app (r:=(x++y).map encB) ?_ ?_ ?_ ?_ (h:=?_);(exact Z65_);(exact Z42_);(exact Z10_);(exact Z21_))|(refine s_app0R (r:=(x++y).map encB) ?_ ?_ ?_ ?_ (h:=?_);(exact Z65_);(exact Z42_);(exact Z10_);(exact Z21_))|(refine p_app (r:=(x++y).map encB) ?_ ?_ ?_ ?_ (h:=?_);(exact Z65_);(exact Z42_);(exact Z10_);(exact Z21_))|(refine go_ ?_;((repeat' first|exact True.intro|refine Two.mk ?_ ?_);all_goals intros))|fail "")
  all_goals (exact endmA_)
theorem locked_fn (key n:Int) (h t:List UInt8) (hh:h.length≤140737488355328) (ht:t.length≤140737488355328):Fn Tryz.prog 227 [.lit (.int .u64 key),.lit (.int .i64 n),.lit (.string (strB h)),.lit (.string (strB t))] (.lit (.string (strB (sealB key n h t)))):=by
  have h1:=stream_fn key n t ht
  have h2:=tagOf2_fn key n h t hh ht
  have l1:=turnB_length key n t
  have l2:=tagB_length key n [h,t]
  unfold sealB
  generalize turnB key n t=x at *
  generalize tagB key n [h,t]=y at *
  refine fn_of_run (by kernel_rfl) Tryz.func227 rfl (by kernel_rfl) ?_
  (repeat' first|(refine s_call (h1) (h:=?_))|(refine p_call (h1) (h:=?_))|(refine s_call (h2) (h:=?_))|(refine p_call (h2) (h:=?_))|(refine go_ ?_;((repeat' first|exact True.intro|refine Two.mk ?_ ?_);all_goals intros))|fail "")
  all_goals exact ends_ (hr:=rfl)
noncomputable def openB (key n:Int) (h s:List UInt8):List UInt8×Int:=
  if s.length<8 then ([],4) else if tagB key n [h,turnB key n (s.take (s.length - 8))]=s.drop (s.length - 8) then (turnB key n (s.take (s.length - 8)),0) else ([],10)
end Go.Proofs.YtendheafcbickaaGreat


set_option linter.unusedVariables false
set_option linter.unusedSimpArgs false
set_option linter.unusedVariables false
namespace Go.Proofs.YtendheafcbickaaGreat
set_option maxRecDepth 100000
attribute [local irreducible] Run RunL QStep GStep Fn Less PL FnM
def catV (L:List Int):List UInt8:=L.flatMap (fun n=>varB n.toNat)
theorem catV_snoc (L:List Int) (n:Int):catV (L++[n])=catV L++varB n.toNat:=by unfold catV;rw [List.flatMap_append];simp
theorem varB8 (n:Nat):(varB n).length≤8:=by
  have:=varK_cases n
  rw [varB_length];omega
theorem catV_len:∀ L:List Int,(catV L).length≤8 * L.length
  | []=>by simp [catV]
  | n :: L=>by
    have h1:=catV_len L
    have h2:=varB8 n.toNat
    unfold catV at *
    rw [List.flatMap_cons,List.length_append,List.length_cons]
    omega
theorem varE_fn (n:Int) (h:0≤n∧n≤4611686018427387903):Fn Tryz.prog 279 [.lit (.int .i64 n)] (.tup [.ro ((varB n.toNat).map encB),.lit (.int .i64 0)]):=by
  have:=varEncode_ok n.toNat (by omega)
  rw [Int.toNat_of_nonneg h.1] at this
  exact this
theorem put_nil (n:Int) (h:0≤n∧n≤4611686018427387903):FnM Tryz.prog 280 [.ptr 0 0 0 0,.ro [[.lit (.int .i64 n)]]] [(0,some (.box 333 [.lit (.slice none 0 0)]))] 1 (.tup []) [(0,some (.box 333 [.own 1])),(1,some (.row 5 1 ((varB n.toNat).map encB)))] 2:=by
  have hv:=varE_fn n h
  have hl:=varB8 n.toNat
  generalize varB n.toNat=v at *
  refine fnm_of_run (by kernel_rfl) Tryz.func280 rfl (by kernel_rfl) (by rfl) ?_
  (repeat' first|(refine go_ ?_;((repeat' first|exact True.intro|refine Two.mk ?_ ?_);all_goals intros))|fail "")
  refine r_for (fun b:Bool=>match b with
    | false=>⟨[(0,.ptr 0 0 0 0),(8,.ro [[.lit (.int .i64 n)]]),(9,.lit (.int .i64 1)),(10,.lit (.int .i64 0))],[(0,some (.box 333 [.lit (.slice none 0 0)]))],1,Tryz.f280.ntmps⟩
    | true=>⟨[(0,.ptr 0 0 0 0),(8,.ro [[.lit (.int .i64 n)]]),(9,.lit (.int .i64 1)),(10,.lit (.int .i64 1))],[(0,some (.box 333 [.own 1])),(1,some (.row 5 1 (v.map encB)))],2,Tryz.f280.ntmps⟩)
    (fun _=>True) (fun b=>if b then 0 else 1) false trivial (by (exact lessA_)) ?_
  rintro (_|_) _
  · dsimp only
    (repeat' first|(refine s_call (hv) (h:=?_))|(refine p_call (hv) (h:=?_))|(refine s_app (r:=v.map encB) ?_ ?_ ?_ ?_ (h:=?_);(exact Z65_);(exact Z42_);(exact Z10_);(exact Z21_))|(refine s_app0R (r:=v.map encB) ?_ ?_ ?_ ?_ (h:=?_);(exact Z65_);(exact Z42_);(exact Z10_);(exact Z21_))|(refine p_app (r:=v.map encB) ?_ ?_ ?_ ?_ (h:=?_);(exact Z65_);(exact Z42_);(exact Z10_);(exact Z21_))|(refine go_ ?_;((repeat' first|exact True.intro|refine Two.mk ?_ ?_);all_goals intros))|fail "")
    all_goals first
      | (refine ⟨true,?_,?_,?_⟩;rotate_left 2;(exact lessA_);(focus (decide));(exact Z68_))
      | skip
  · dsimp only
    (repeat' first|(refine go_ ?_;((repeat' first|exact True.intro|refine Two.mk ?_ ?_);all_goals intros))|fail "")
    all_goals (exact endmA_)
theorem put_own (L:List Int) (p:List UInt8) (hL:∀ n ∈ L,0≤n∧n≤4611686018427387903) (hl:0<L.length∧L.length≤10) (hp:p.length≤1000):FnM Tryz.prog 280 [.ptr 0 0 0 0,.ro (L.map encI)] [(0,some (.box 333 [.own 1])),(1,some (.row 5 1 (p.map encB)))] 2 (.tup []) [(0,some (.box 333 [.own 2])),(2,some (.row 5 1 ((p++catV L).map encB)))] 3:=by
  refine fnm_of_run (by kernel_rfl) Tryz.func280 rfl (by kernel_rfl) (by rfl) ?_
  (repeat' first|(refine go_ ?_;((repeat' first|exact True.intro|refine Two.mk ?_ ?_);all_goals intros))|fail "")
  refine r_for (fun x:Nat=>match x with
    | 0=>⟨[(0,.ptr 0 0 0 0),(8,.ro (L.map encI)),(9,.lit (.int .i64 L.length)),(10,.lit (.int .i64 0))],[(0,some (.box 333 [.own 1])),(1,some (.row 5 1 (p.map encB)))],2,Tryz.f280.ntmps⟩
    | k+1=>⟨[(0,.ptr 0 0 0 0),(8,.ro (L.map encI)),(9,.lit (.int .i64 L.length)),(10,.lit (.int .i64 ((k+1:Nat):Int)))],[(0,some (.box 333 [.own 2])),(2,some (.row 5 1 ((p++catV (L.take (k+1))).map encB)))],3,Tryz.f280.ntmps⟩)
    (fun x=>x≤L.length) (fun x=>L.length - x) 0 (Nat.zero_le _) (by (exact lessA_)) ?_
  rintro (_|k) hk
  · dsimp only
    have h0:=varE_fn _ (hL _ (getD_mem hl.1))
    have e:catV (L.take (0+1))=varB (L.getD 0 default).toNat:=by
      rw [take_snoc hl.1,catV_snoc];rfl
    have hv:=varB8 (L.getD 0 default).toNat
    (repeat' first|(refine s_call (h0) (h:=?_))|(refine p_call (h0) (h:=?_))|(refine s_app (r:=(p++catV (L.take (0+1))).map encB) ?_ ?_ ?_ ?_ (h:=?_);(exact Z57_);(exact Z42_);(exact Z10_);(exact Z21_))|(refine s_app0R (r:=(p++catV (L.take (0+1))).map encB) ?_ ?_ ?_ ?_ (h:=?_);(exact Z57_);(exact Z42_);(exact Z10_);(exact Z21_))|(refine p_app (r:=(p++catV (L.take (0+1))).map encB) ?_ ?_ ?_ ?_ (h:=?_);(exact Z57_);(exact Z42_);(exact Z10_);(exact Z21_))|(refine go_ ?_;((repeat' first|exact True.intro|refine Two.mk ?_ ?_);all_goals intros))|fail "")
    all_goals first
      | (refine ⟨0+1,?_,?_,?_⟩;rotate_left 2;(exact lessA_);(exact Z69_);(exact Z69_))
      | skip
  · dsimp only
    by_cases hkL:k+1<L.length
    · have h0:=varE_fn _ (hL _ (getD_mem hkL))
      have e:catV (L.take (k+1+1))=catV (L.take (k+1))++varB (L.getD (k+1) default).toNat:=by
        rw [take_snoc hkL,catV_snoc]
      have hv:=varB8 (L.getD (k+1) default).toNat
      have hc:=catV_len (L.take (k+1))
      rw [List.length_take] at hc
      (repeat' first|(refine s_call (h0) (h:=?_))|(refine p_call (h0) (h:=?_))|(refine s_app (r:=(p++catV (L.take (k+1+1))).map encB) ?_ ?_ ?_ ?_ (h:=?_);(exact Z39_);(exact Z42_);(exact Z10_);(exact Z21_))|(refine s_app0R (r:=(p++catV (L.take (k+1+1))).map encB) ?_ ?_ ?_ ?_ (h:=?_);(exact Z39_);(exact Z42_);(exact Z10_);(exact Z21_))|(refine p_app (r:=(p++catV (L.take (k+1+1))).map encB) ?_ ?_ ?_ ?_ (h:=?_);(exact Z39_);(exact Z42_);(exact Z10_);(exact Z21_))|(refine go_ ?_;((repeat' first|exact True.intro|refine Two.mk ?_ ?_);all_goals intros))|fail "")
      all_goals first
        | (refine ⟨k+1+1,?_,?_,?_⟩;rotate_left 2;(exact lessA_);(exact Z69_);(exact Z69_))
        | skip
    · rw [List.take_of_length_le (by omega)]
      (repeat' first|(refine go_ ?_;((repeat' first|exact True.intro|refine Two.mk ?_ ?_);all_goals intros))|fail "")
      all_goals (exact endmA_)
theorem put1 (n:Int) (p:List UInt8) (h:0≤n∧n≤4611686018427387903) (hp:p.length≤1000):FnM Tryz.prog 280 [.ptr 0 0 0 0,.ro [[.lit (.int .i64 n)]]] [(0,some (.box 333 [.own 1])),(1,some (.row 5 1 (p.map encB)))] 2 (.tup []) [(0,some (.box 333 [.own 2])),(2,some (.row 5 1 ((p++varB n.toNat).map encB)))] 3:=by
  have:=put_own [n] p (fun m hm=>by rw [List.mem_singleton.1 hm];exact h) (by simp) hp
  rw [show catV [n]=varB n.toNat by simp [catV]] at this
  exact this
theorem put2 (m n:Int) (p:List UInt8) (hm:0≤m∧m≤4611686018427387903) (h:0≤n∧n≤4611686018427387903) (hp:p.length≤1000):FnM Tryz.prog 280 [.ptr 0 0 0 0,.ro [[.lit (.int .i64 m)],[.lit (.int .i64 n)]]] [(0,some (.box 333 [.own 1])),(1,some (.row 5 1 (p.map encB)))] 2 (.tup []) [(0,some (.box 333 [.own 2])),(2,some (.row 5 1 ((p++(varB m.toNat++varB n.toNat)).map encB)))] 3:=by
  have:=put_own [m,n] p (fun x hx=>by simp at hx;rcases hx with rfl|rfl;exact hm;exact h) (by simp) hp
  rw [show catV [m,n]=varB m.toNat++varB n.toNat by simp [catV]] at this
  exact this
theorem put3 (m k n:Int) (p:List UInt8) (hm:0≤m∧m≤4611686018427387903) (hk:0≤k∧k≤4611686018427387903) (h:0≤n∧n≤4611686018427387903) (hp:p.length≤1000):FnM Tryz.prog 280 [.ptr 0 0 0 0,.ro [[.lit (.int .i64 m)],[.lit (.int .i64 k)],[.lit (.int .i64 n)]]] [(0,some (.box 333 [.own 1])),(1,some (.row 5 1 (p.map encB)))] 2 (.tup []) [(0,some (.box 333 [.own 2])),(2,some (.row 5 1 ((p++(varB m.toNat++varB k.toNat++varB n.toNat)).map encB)))] 3:=by
  have:=put_own [m,k,n] p (fun x hx=>by simp at hx;rcases hx with rfl|rfl|rfl;exact hm;exact hk;exact h) (by simp) hp
  rw [show catV [m,k,n]=varB m.toNat++varB k.toNat++varB n.toNat by simp [catV]] at this
  exact this
end Go.Proofs.YtendheafcbickaaGreat
