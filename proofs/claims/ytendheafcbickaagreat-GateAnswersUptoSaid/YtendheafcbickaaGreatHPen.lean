
import Derived.Test.YtendheafcbickaaGreatHZip
import Derived.Test.YtendheafcbickaaGreatHGo
import Derived.Test.YtendheafcbickaaGreatHAbsB
import Derived.Test.YtendheafcbickaaGreatHVar2
set_option linter.unusedVariables false
set_option linter.unusedSimpArgs false
set_option linter.unusedVariables false
namespace Go.Proofs.YtendheafcbickaaGreat
set_option maxRecDepth 100000
attribute [local irreducible] Run RunL QStep GStep Fn Less PL FnM
def catV (L:List Int):List UInt8:=L.flatMap (fun n=>varB n.toNat)
theorem catV_snoc (L:List Int) (n:Int):catV (L++[n])=catV L++varB n.toNat:=by unfold catV;rw [List.flatMap_append];simp
theorem varB8 (n:Nat):(varB n).length≤8:=by
  have:=varK_cases n
  rw [varB_length];omega
theorem catV_len:∀ L:List Int,(catV L).length≤8 * L.length
  | []=>by simp [catV]
  | n :: L=>by
    have h1:=catV_len L
    have h2:=varB8 n.toNat
    unfold catV at *
    rw [List.flatMap_cons,List.length_append,List.length_cons]
    omega
theorem varE_fn (n:Int) (h:0≤n∧n≤4611686018427387903):Fn Tryz.prog 279 [.lit (.int .i64 n)] (.tup [.ro ((varB n.toNat).map encB),.lit (.int .i64 0)]):=by
  have:=varEncode_ok n.toNat (by omega)
  rw [Int.toNat_of_nonneg h.1] at this
  exact this
theorem put_nil (n:Int) (h:0≤n∧n≤4611686018427387903):FnM Tryz.prog 280 [.ptr 0 0 0 0,.ro [[.lit (.int .i64 n)]]] [(0,some (.box 333 [.lit (.slice none 0 0)]))] 1 (.tup []) [(0,some (.box 333 [.own 1])),(1,some (.row 5 1 ((varB n.toNat).map encB)))] 2:=by
  have hv:=varE_fn n h
  have hl:=varB8 n.toNat
  generalize varB n.toNat=v at *
  refine fnm_of_run (by kernel_rfl) Tryz.func280 rfl (by kernel_rfl) (by rfl) ?_
  (repeat' first|(refine go_ ?_;((repeat' first|exact True.intro|refine Two.mk ?_ ?_);all_goals intros))|fail "")
  refine r_for (fun b:Bool=>match b with
    | false=>⟨[(0,.ptr 0 0 0 0),(8,.ro [[.lit (.int .i64 n)]]),(9,.lit (.int .i64 1)),(10,.lit (.int .i64 0))],[(0,some (.box 333 [.lit (.slice none 0 0)]))],1,Tryz.f280.ntmps⟩
    | true=>⟨[(0,.ptr 0 0 0 0),(8,.ro [[.lit (.int .i64 n)]]),(9,.lit (.int .i64 1)),(10,.lit (.int .i64 1))],[(0,some (.box 333 [.own 1])),(1,some (.row 5 1 (v.map encB)))],2,Tryz.f280.ntmps⟩)
    (fun _=>True) (fun b=>if b then 0 else 1) false trivial (by (exact lessA_)) ?_
  rintro (_|_) _
  · dsimp only
    (repeat' first|(refine s_call (hv) (h:=?_))|(refine p_call (hv) (h:=?_))|(refine s_app (r:=v.map encB) ?_ ?_ ?_ ?_ (h:=?_);(exact Z65_);(exact Z47_);(exact Z12_);(exact Z22_))|(refine s_app0R (r:=v.map encB) ?_ ?_ ?_ ?_ (h:=?_);(exact Z65_);(exact Z47_);(exact Z12_);(exact Z22_))|(refine p_app (r:=v.map encB) ?_ ?_ ?_ ?_ (h:=?_);(exact Z65_);(exact Z47_);(exact Z12_);(exact Z22_))|(refine go_ ?_;((repeat' first|exact True.intro|refine Two.mk ?_ ?_);all_goals intros))|fail "")
    all_goals first
      | (refine ⟨true,?_,?_,?_⟩;rotate_left 2;(exact lessA_);(focus (decide));(exact Z68_))
      | skip
  · dsimp only
    (repeat' first|(refine go_ ?_;((repeat' first|exact True.intro|refine Two.mk ?_ ?_);all_goals intros))|fail "")
    all_goals (exact endmA_)
theorem put_own (L:List Int) (p:List UInt8) (hL:∀ n ∈ L,0≤n∧n≤4611686018427387903) (hl:0<L.length∧L.length≤10) (hp:p.length≤1000):FnM Tryz.prog 280 [.ptr 0 0 0 0,.ro (L.map encI)] [(0,some (.box 333 [.own 1])),(1,some (.row 5 1 (p.map encB)))] 2 (.tup []) [(0,some (.box 333 [.own 2])),(2,some (.row 5 1 ((p++catV L).map encB)))] 3:=by
  refine fnm_of_run (by kernel_rfl) Tryz.func280 rfl (by kernel_rfl) (by rfl) ?_
  (repeat' first|(refine go_ ?_;((repeat' first|exact True.intro|refine Two.mk ?_ ?_);all_goals intros))|fail "")
  refine r_for (fun x:Nat=>match x with
    | 0=>⟨[(0,.ptr 0 0 0 0),(8,.ro (L.map encI)),(9,.lit (.int .i64 L.length)),(10,.lit (.int .i64 0))],[(0,some (.box 333 [.own 1])),(1,some (.row 5 1 (p.map encB)))],2,Tryz.f280.ntmps⟩
    | k+1=>⟨[(0,.ptr 0 0 0 0),(8,.ro (L.map encI)),(9,.lit (.int .i64 L.length)),(10,.lit (.int .i64 ((k+1:Nat):Int)))],[(0,some (.box 333 [.own 2])),(2,some (.row 5 1 ((p++catV (L.take (k+1))).map encB)))],3,Tryz.f280.ntmps⟩)
    (fun x=>x≤L.length) (fun x=>L.length - x) 0 (Nat.zero_le _) (by (exact lessA_)) ?_
  rintro (_|k) hk
  · dsimp only
    have h0:=varE_fn _ (hL _ (getD_mem hl.1))
    have e:catV (L.take (0+1))=varB (L.getD 0 default).toNat:=by
      rw [take_snoc hl.1,catV_snoc];rfl
    have hv:=varB8 (L.getD 0 default).toNat
    (repeat' first|(refine s_call (h0) (h:=?_))|(refine p_call (h0) (h:=?_))|(refine s_app (r:=(p++catV (L.take (0+1))).map encB) ?_ ?_ ?_ ?_ (h:=?_);(exact Z59_);(exact Z47_);(exact Z12_);(exact Z22_))|(refine s_app0R (r:=(p++catV (L.take (0+1))).map encB) ?_ ?_ ?_ ?_ (h:=?_);(exact Z59_);(exact Z47_);(exact Z12_);(exact Z22_))|(refine p_app (r:=(p++catV (L.take (0+1))).map encB) ?_ ?_ ?_ ?_ (h:=?_);(exact Z59_);(exact Z47_);(exact Z12_);(exact Z22_))|(refine go_ ?_;((repeat' first|exact True.intro|refine Two.mk ?_ ?_);all_goals intros))|fail "")
    all_goals first
      | (refine ⟨0+1,?_,?_,?_⟩;rotate_left 2;(exact lessA_);(exact Z69_);(exact Z69_))
      | skip
  · dsimp only
    by_cases hkL:k+1<L.length
    · have h0:=varE_fn _ (hL _ (getD_mem hkL))
      have e:catV (L.take (k+1+1))=catV (L.take (k+1))++varB (L.getD (k+1) default).toNat:=by
        rw [take_snoc hkL,catV_snoc]
      have hv:=varB8 (L.getD (k+1) default).toNat
      have hc:=catV_len (L.take (k+1))
      rw [List.length_take] at hc
      (repeat' first|(refine s_call (h0) (h:=?_))|(refine p_call (h0) (h:=?_))|(refine s_app (r:=(p++catV (L.take (k+1+1))).map encB) ?_ ?_ ?_ ?_ (h:=?_);(exact Z43_);(exact Z47_);(exact Z12_);(exact Z22_))|(refine s_app0R (r:=(p++catV (L.take (k+1+1))).map encB) ?_ ?_ ?_ ?_ (h:=?_);(exact Z43_);(exact Z47_);(exact Z12_);(exact Z22_))|(refine p_app (r:=(p++catV (L.take (k+1+1))).map encB) ?_ ?_ ?_ ?_ (h:=?_);(exact Z43_);(exact Z47_);(exact Z12_);(exact Z22_))|(refine go_ ?_;((repeat' first|exact True.intro|refine Two.mk ?_ ?_);all_goals intros))|fail "")
      all_goals first
        | (refine ⟨k+1+1,?_,?_,?_⟩;rotate_left 2;(exact lessA_);(exact Z69_);(exact Z69_))
        | skip
    · rw [List.take_of_length_le (by omega)]
      (repeat' first|(refine go_ ?_;((repeat' first|exact True.intro|refine Two.mk ?_ ?_);all_goals intros))|fail "")
      all_goals (exact endmA_)
theorem put1 (n:Int) (p:List UInt8) (h:0≤n∧n≤4611686018427387903) (hp:p.length≤1000):FnM Tryz.prog 280 [.ptr 0 0 0 0,.ro [[.lit (.int .i64 n)]]] [(0,some (.box 333 [.own 1])),(1,some (.row 5 1 (p.map encB)))] 2 (.tup []) [(0,some (.box 333 [.own 2])),(2,some (.row 5 1 ((p++varB n.toNat).map encB)))] 3:=by
  have:=put_own [n] p (fun m hm=>by rw [List.mem_singleton.1 hm];exact h) (by simp) hp
  rw [show catV [n]=varB n.toNat by simp [catV]] at this
  exact this
theorem put2 (m n:Int) (p:List UInt8) (hm:0≤m∧m≤4611686018427387903) (h:0≤n∧n≤4611686018427387903) (hp:p.length≤1000):FnM Tryz.prog 280 [.ptr 0 0 0 0,.ro [[.lit (.int .i64 m)],[.lit (.int .i64 n)]]] [(0,some (.box 333 [.own 1])),(1,some (.row 5 1 (p.map encB)))] 2 (.tup []) [(0,some (.box 333 [.own 2])),(2,some (.row 5 1 ((p++(varB m.toNat++varB n.toNat)).map encB)))] 3:=by
  have:=put_own [m,n] p (fun x hx=>by simp at hx;rcases hx with rfl|rfl;exact hm;exact h) (by simp) hp
  rw [show catV [m,n]=varB m.toNat++varB n.toNat by simp [catV]] at this
  exact this
theorem put3 (m k n:Int) (p:List UInt8) (hm:0≤m∧m≤4611686018427387903) (hk:0≤k∧k≤4611686018427387903) (h:0≤n∧n≤4611686018427387903) (hp:p.length≤1000):FnM Tryz.prog 280 [.ptr 0 0 0 0,.ro [[.lit (.int .i64 m)],[.lit (.int .i64 k)],[.lit (.int .i64 n)]]] [(0,some (.box 333 [.own 1])),(1,some (.row 5 1 (p.map encB)))] 2 (.tup []) [(0,some (.box 333 [.own 2])),(2,some (.row 5 1 ((p++(varB m.toNat++varB k.toNat++varB n.toNat)).map encB)))] 3:=by
  have:=put_own [m,k,n] p (fun x hx=>by simp at hx;rcases hx with rfl|rfl|rfl;exact hm;exact hk;exact h) (by simp) hp
  rw [show catV [m,k,n]=varB m.toNat++varB k.toNat++varB n.toNat by simp [catV]] at this
  exact this
end Go.Proofs.YtendheafcbickaaGreat
