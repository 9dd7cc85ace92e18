
import Derived.Test.YtendheafcbickaaGreatHZip
import Derived.Test.YtendheafcbickaaGreatHGo
import Derived.Test.YtendheafcbickaaGreatHHeadC
import Derived.Test.YtendheafcbickaaGreatHVar2
set_option linter.unusedVariables false
set_option linter.unusedSimpArgs false
set_option linter.unusedVariables false
namespace Go.Proofs.YtendheafcbickaaGreat
set_option maxRecDepth 100000
attribute [local irreducible] Run RunL QStep GStep Fn Less PL FnM
def hdPre (h:DHead):List UInt8:=
  if h.Kind=2 then [UInt8.ofNat (63+h.Size.toNat),UInt8.ofNat h.To.toNat]
  else (if h.Kind=0 then [UInt8.ofNat (191+h.Size.toNat),UInt8.ofNat h.To.toNat,UInt8.ofNat h.From.toNat] else [UInt8.ofNat 240,UInt8.ofNat h.To.toNat,UInt8.ofNat h.From.toNat])++(varB h.Token.length++h.Token)
def hdB (h:DHead):List UInt8:=hdPre h++bigB h.Number.toNat h.Size.toNat
theorem encB_small {m:Nat} (h:m<256):encB (UInt8.ofNat m)=[.lit (.int .u8 (m:Int))]:=by
  rw [encB_ofNat,IntKind.wrap_u8,Int.emod_eq_of_lt (by omega) (by omega)]
theorem hd_byte {p:List UInt8} {n s j:Nat} (hs:s≤8) (h:j<s):(p++(bigB n s).take j).map encB++[[.lit (.int .u8 (IntKind.u8.wrap ((n:Int).fdiv (2 ^ min (8 * ((s:Int) - 1 - (j:Int))).toNat IntKind.i64.bits))))]]=(p++(bigB n s).take (j+1)).map encB:=by
  rw [take_snoc (by rw [bigB_length];exact h),← List.append_assoc,List.map_append (l₂:=[_]),List.map_cons,List.map_nil,bigB_get n s j h,encB_ofNat]
  rw [show min (8 * ((s:Int) - 1 - (j:Int))).toNat IntKind.i64.bits=8 * (s - 1 - j) by (show min (8 * ((s:Int) - 1 - (j:Int))).toNat 64=_;omega),fdiv_two_pow,Nat.pow_mul]
theorem hd_ok {h:DHead} (h0:hdFlt h=0):(h.Kind=0∨h.Kind=1∨h.Kind=2)∧h.Token.length≤120∧(0≤h.To∧h.To≤255)∧(0≤h.From∧h.From≤255)∧0≤h.Number∧0≤h.Size∧h.Size≤4∧h.Number<4294967296∧(h.Kind=1→h.Size=0∧h.Number=0)∧(¬ h.Kind=1→1≤h.Size):=by
  unfold hdFlt at h0
  repeat (split at h0;first|(cases h0;done)|skip)
  · refine ⟨by omega,by omega,by omega,by omega,by omega,by omega,by omega,by omega,fun _=>by omega,fun h=>by omega⟩
  · have:256 ^ h.Size.toNat≤256 ^ 4:=Nat.pow_le_pow_right (by omega) (by omega)
    have h4:(256:Nat) ^ 4=4294967296:=by decide
    refine ⟨by omega,by omega,by omega,by omega,by omega,by omega,by omega,by omega,fun _=>by omega,fun h=>by omega⟩
  all_goals skip
set_option maxHeartbeats 2000000 in
theorem headEncode_own (h:DHead) (hw:wfHead h) (h0:hdFlt h=0):FnM Tryz.prog 214 [.agg (encHead h)] [] 0 (.tup [.own 0,.lit (.int .i64 0)]) [(0,some (.row 5 1 ((hdB h).map encB)))] 1:=by
  have h1:=headCheck_fn h hw
  rw [h0] at h1
  obtain ⟨g1,g2,g3,g4,g5,g6,g7,g8,g9,g10⟩:=hd_ok h0
  clear h0 hw
  unfold hdB hdPre
  obtain ⟨K,T,F,tok,N,S⟩:=h
  dsimp only at *
  obtain ⟨s,rfl⟩:=Int.eq_ofNat_of_zero_le g6
  obtain ⟨n,rfl⟩:=Int.eq_ofNat_of_zero_le g5
  obtain ⟨t,rfl⟩:=Int.eq_ofNat_of_zero_le g3.1
  obtain ⟨f,rfl⟩:=Int.eq_ofNat_of_zero_le g4.1
  simp only [Int.toNat_natCast]
  have hv:=varEncode_ok tok.length (by omega)
  have hvl:=varB_length tok.length
  have hvk:=varK_cases tok.length
  have c0:=encB_small (m:=t) (by omega)
  have c1:=encB_small (m:=f) (by omega)
  have hC:encHead ⟨K,t,f,tok,n,s⟩=[.lit (.int .i64 K),.lit (.int .i64 t),.lit (.int .i64 f),.ro (tok.map encB),.lit (.int .i64 n),.lit (.int .i64 s)]:=rfl
  rw [hC] at h1 ⊢
  rcases g1 with rfl|rfl|rfl
  · rw [if_neg (by omega),if_pos rfl]
    have g10:=g10 (by omega)
    have c2:=encB_small (m:=191+s) (by omega)
    have e1:=orU8 2 192 (s - 1) (by decide) (by omega) (by omega)
    rw [show ((192:Nat):Int)=192 from rfl,show ((s - 1:Nat):Int)=(s:Int) - 1 by omega,show 192+(s - 1)=191+s by omega] at e1
    have er:[[V.lit (.int .u8 (bitsI .or .u8 192 ((s:Int) - 1)))],[V.lit (.int .u8 (t:Int))],[V.lit (.int .u8 (f:Int))]]=[UInt8.ofNat (191+s),UInt8.ofNat t,UInt8.ofNat f].map encB:=by simp only [List.map_cons,List.map_nil,c0,c1,c2,e1]
    generalize varB tok.length=v at *
    refine fnm_of_run (by kernel_rfl) Tryz.func214 rfl (by kernel_rfl) (by rfl) ?_
    (repeat' first|(refine s_call (h1) (h:=?_))|(refine p_call (h1) (h:=?_))|(refine s_call (hv) (h:=?_))|(refine p_call (hv) (h:=?_))|(refine s_rowR (r:=[UInt8.ofNat (191+s),UInt8.ofNat t,UInt8.ofNat f].map encB) (hr:=?_) (h:=?_);(focus (exact er)))|(refine s_app (r:=([UInt8.ofNat (191+s),UInt8.ofNat t,UInt8.ofNat f]++v).map encB) ?_ ?_ ?_ ?_ (h:=?_);(exact Z61_);(exact Z47_);(exact Z12_);(exact Z22_))|(refine s_app0R (r:=([UInt8.ofNat (191+s),UInt8.ofNat t,UInt8.ofNat f]++v).map encB) ?_ ?_ ?_ ?_ (h:=?_);(exact Z61_);(exact Z47_);(exact Z12_);(exact Z22_))|(refine p_app (r:=([UInt8.ofNat (191+s),UInt8.ofNat t,UInt8.ofNat f]++v).map encB) ?_ ?_ ?_ ?_ (h:=?_);(exact Z61_);(exact Z47_);(exact Z12_);(exact Z22_))|(refine s_app (r:=([UInt8.ofNat (191+s),UInt8.ofNat t,UInt8.ofNat f]++v++tok).map encB) ?_ ?_ ?_ ?_ (h:=?_);(exact Z54_);(exact Z47_);(exact Z12_);(exact Z22_))|(refine s_app0R (r:=([UInt8.ofNat (191+s),UInt8.ofNat t,UInt8.ofNat f]++v++tok).map encB) ?_ ?_ ?_ ?_ (h:=?_);(exact Z54_);(exact Z47_);(exact Z12_);(exact Z22_))|(refine p_app (r:=([UInt8.ofNat (191+s),UInt8.ofNat t,UInt8.ofNat f]++v++tok).map encB) ?_ ?_ ?_ ?_ (h:=?_);(exact Z54_);(exact Z47_);(exact Z12_);(exact Z22_))|(refine goI_ ?_;((repeat' first|exact True.intro|refine Two.mk ?_ ?_);all_goals intros))|refine s_i (h:=?_)|refine s_i (hq:=q_index_ro rfl rfl rfl (by first|exact lit0|exact lit1|exact lit2|exact lit3|rfl) (by simp only [List.length_cons,List.length_nil];omega) rfl rfl rfl rfl) (h:=?_)|refine p_i (h:=?_)|refine p_ih (h:=?_)|refine s_lit (h:=?_)|refine p_lit (h:=?_)|refine p_lit0 (h:=?_)|refine s_lit0 (h:=?_)|refine s_ixa (h:=?_)|refine s_insert (h:=?_)|(refine s_sadd rfl ?_ (h:=?_);(exact Z11_))|(refine p_sadd rfl ?_ (h:=?_);(exact Z11_))|fail "")
    rw [← List.append_assoc]
    generalize hp:[UInt8.ofNat (191+s),UInt8.ofNat t,UInt8.ofNat f]++v++tok=p at *
    have hpl:p.length≤200:=by rw [← hp];simp only [List.length_append,List.length_cons,List.length_nil];omega
    have hbl:=bigB_length n s
    refine r_for (fun j:Nat=>⟨[(1,.ptr 0 0 0 0),(5,.own 1),(8,.lit (.int .i64 ((s:Int) - 1 - j)))],[(0,some (.box 138 [.lit (.int .i64 0),.lit (.int .i64 t),.lit (.int .i64 f),.ro (tok.map encB),.lit (.int .i64 n),.lit (.int .i64 s)])),(1,some (.row 5 1 ((p++(bigB n s).take j).map encB)))],2,Tryz.f214.ntmps⟩)
      (fun j=>j≤s) (fun j=>s - j) 0 (Nat.zero_le _) (by rw [List.take_zero,List.append_nil];(exact lessA_)) ?_
    intro j hj
    have htl:((bigB n s).take j).length=j:=by rw [List.length_take];omega
    by_cases hjs:j<s
    · have e:=hd_byte (p:=p) (n:=n) (s:=s) (by omega) hjs
      have ej:(s:Int) - 1 - (j:Int)=((s - 1 - j:Nat):Int):=by omega
      (repeat' first|(refine s_app (r:=(p++(bigB n s).take (j+1)).map encB) ?_ ?_ ?_ ?_ (h:=?_);(exact Z63_);(exact Z47_);(exact Z12_);(exact Z22_))|(refine s_app0R (r:=(p++(bigB n s).take (j+1)).map encB) ?_ ?_ ?_ ?_ (h:=?_);(exact Z63_);(exact Z47_);(exact Z12_);(exact Z22_))|(refine p_app (r:=(p++(bigB n s).take (j+1)).map encB) ?_ ?_ ?_ ?_ (h:=?_);(exact Z63_);(exact Z47_);(exact Z12_);(exact Z22_))|(refine go_ ?_;((repeat' first|exact True.intro|refine Two.mk ?_ ?_);all_goals intros))|fail "")
      all_goals (refine ⟨j+1,?_,?_,?_⟩;rotate_left 2;(exact lessA_);(exact Z69_);(exact Z69_))
    · have:j=s:=by omega
      subst this
      rw [List.take_of_length_le (by omega)]
      (repeat' first|(refine go_ ?_;((repeat' first|exact True.intro|refine Two.mk ?_ ?_);all_goals intros))|fail "")
      all_goals (exact endmA_)
  · rw [if_neg (by omega),if_neg (by omega)]
    obtain ⟨q1,q2⟩:=g9 rfl
    obtain rfl:s=0:=by omega
    obtain rfl:n=0:=by omega
    have c2:=encB_small (m:=240) (by omega)
    have er:[[V.lit (.int .u8 240)],[V.lit (.int .u8 (t:Int))],[V.lit (.int .u8 (f:Int))]]=[UInt8.ofNat 240,UInt8.ofNat t,UInt8.ofNat f].map encB:=by simp only [List.map_cons,List.map_nil,c0,c1,c2];rfl
    generalize varB tok.length=v at *
    refine fnm_of_run (by kernel_rfl) Tryz.func214 rfl (by kernel_rfl) (by rfl) ?_
    (repeat' first|(refine s_call (h1) (h:=?_))|(refine p_call (h1) (h:=?_))|(refine s_call (hv) (h:=?_))|(refine p_call (hv) (h:=?_))|(refine s_rowR (r:=[UInt8.ofNat 240,UInt8.ofNat t,UInt8.ofNat f].map encB) (hr:=?_) (h:=?_);(focus (exact er)))|(refine s_app (r:=([UInt8.ofNat 240,UInt8.ofNat t,UInt8.ofNat f]++v).map encB) ?_ ?_ ?_ ?_ (h:=?_);(exact Z61_);(exact Z47_);(exact Z12_);(exact Z22_))|(refine s_app0R (r:=([UInt8.ofNat 240,UInt8.ofNat t,UInt8.ofNat f]++v).map encB) ?_ ?_ ?_ ?_ (h:=?_);(exact Z61_);(exact Z47_);(exact Z12_);(exact Z22_))|(refine p_app (r:=([UInt8.ofNat 240,UInt8.ofNat t,UInt8.ofNat f]++v).map encB) ?_ ?_ ?_ ?_ (h:=?_);(exact Z61_);(exact Z47_);(exact Z12_);(exact Z22_))|(refine s_app (r:=([UInt8.ofNat 240,UInt8.ofNat t,UInt8.ofNat f]++v++tok).map encB) ?_ ?_ ?_ ?_ (h:=?_);(exact Z54_);(exact Z47_);(exact Z12_);(exact Z22_))|(refine s_app0R (r:=([UInt8.ofNat 240,UInt8.ofNat t,UInt8.ofNat f]++v++tok).map encB) ?_ ?_ ?_ ?_ (h:=?_);(exact Z54_);(exact Z47_);(exact Z12_);(exact Z22_))|(refine p_app (r:=([UInt8.ofNat 240,UInt8.ofNat t,UInt8.ofNat f]++v++tok).map encB) ?_ ?_ ?_ ?_ (h:=?_);(exact Z54_);(exact Z47_);(exact Z12_);(exact Z22_))|(refine goI_ ?_;((repeat' first|exact True.intro|refine Two.mk ?_ ?_);all_goals intros))|refine s_i (h:=?_)|refine s_i (hq:=q_index_ro rfl rfl rfl (by first|exact lit0|exact lit1|exact lit2|exact lit3|rfl) (by simp only [List.length_cons,List.length_nil];omega) rfl rfl rfl rfl) (h:=?_)|refine p_i (h:=?_)|refine p_ih (h:=?_)|refine s_lit (h:=?_)|refine p_lit (h:=?_)|refine p_lit0 (h:=?_)|refine s_lit0 (h:=?_)|refine s_ixa (h:=?_)|refine s_insert (h:=?_)|(refine s_sadd rfl ?_ (h:=?_);(exact Z11_))|(refine p_sadd rfl ?_ (h:=?_);(exact Z11_))|fail "")
    rw [← List.append_assoc]
    generalize hp:[UInt8.ofNat 240,UInt8.ofNat t,UInt8.ofNat f]++v++tok=p at *
    have hpl:p.length≤200:=by rw [← hp];simp only [List.length_append,List.length_cons,List.length_nil];omega
    have hbl:=bigB_length 0 0
    refine r_for (fun j:Nat=>⟨[(1,.ptr 0 0 0 0),(5,.own 1),(8,.lit (.int .i64 (((0:Nat):Int) - 1 - j)))],[(0,some (.box 138 [.lit (.int .i64 1),.lit (.int .i64 t),.lit (.int .i64 f),.ro (tok.map encB),.lit (.int .i64 ((0:Nat):Int)),.lit (.int .i64 ((0:Nat):Int))])),(1,some (.row 5 1 ((p++(bigB 0 0).take j).map encB)))],2,Tryz.f214.ntmps⟩)
      (fun j=>j≤0) (fun j=>0 - j) 0 (Nat.zero_le _) (by rw [List.take_zero,List.append_nil];(exact lessA_)) ?_
    intro j hj
    have htl:((bigB 0 0).take j).length=j:=by rw [List.length_take];omega
    by_cases hjs:j<0
    · have e:=hd_byte (p:=p) (n:=0) (s:=0) (by omega) hjs
      have ej:((0:Nat):Int) - 1 - (j:Int)=((0 - 1 - j:Nat):Int):=by omega
      (repeat' first|(refine s_app (r:=(p++(bigB 0 0).take (j+1)).map encB) ?_ ?_ ?_ ?_ (h:=?_);(exact Z63_);(exact Z47_);(exact Z12_);(exact Z22_))|(refine s_app0R (r:=(p++(bigB 0 0).take (j+1)).map encB) ?_ ?_ ?_ ?_ (h:=?_);(exact Z63_);(exact Z47_);(exact Z12_);(exact Z22_))|(refine p_app (r:=(p++(bigB 0 0).take (j+1)).map encB) ?_ ?_ ?_ ?_ (h:=?_);(exact Z63_);(exact Z47_);(exact Z12_);(exact Z22_))|(refine go_ ?_;((repeat' first|exact True.intro|refine Two.mk ?_ ?_);all_goals intros))|fail "")
      all_goals (refine ⟨j+1,?_,?_,?_⟩;rotate_left 2;(exact lessA_);(exact Z69_);(exact Z69_))
    · have:j=0:=by omega
      subst this
      rw [List.take_of_length_le (by omega)]
      (repeat' first|(refine go_ ?_;((repeat' first|exact True.intro|refine Two.mk ?_ ?_);all_goals intros))|fail "")
      all_goals (exact endmA_)
  · rw [if_pos rfl]
    have g10:=g10 (by omega)
    have c2:=encB_small (m:=63+s) (by omega)
    have e1:=orU8 2 64 (s - 1) (by decide) (by omega) (by omega)
    rw [show ((64:Nat):Int)=64 from rfl,show ((s - 1:Nat):Int)=(s:Int) - 1 by omega,show 64+(s - 1)=63+s by omega] at e1
    have er:[[V.lit (.int .u8 (bitsI .or .u8 64 ((s:Int) - 1)))],[V.lit (.int .u8 (t:Int))]]=[UInt8.ofNat (63+s),UInt8.ofNat t].map encB:=by simp only [List.map_cons,List.map_nil,c0,c2,e1]
    refine fnm_of_run (by kernel_rfl) Tryz.func214 rfl (by kernel_rfl) (by rfl) ?_
    (repeat' first|(refine s_call (h1) (h:=?_))|(refine p_call (h1) (h:=?_))|(refine s_rowR (r:=[UInt8.ofNat (63+s),UInt8.ofNat t].map encB) (hr:=?_) (h:=?_);(focus (exact er)))|(refine goI_ ?_;((repeat' first|exact True.intro|refine Two.mk ?_ ?_);all_goals intros))|refine s_i (h:=?_)|refine s_i (hq:=q_index_ro rfl rfl rfl (by first|exact lit0|exact lit1|exact lit2|exact lit3|rfl) (by simp only [List.length_cons,List.length_nil];omega) rfl rfl rfl rfl) (h:=?_)|refine p_i (h:=?_)|refine p_ih (h:=?_)|refine s_lit (h:=?_)|refine p_lit (h:=?_)|refine p_lit0 (h:=?_)|refine s_lit0 (h:=?_)|refine s_ixa (h:=?_)|refine s_insert (h:=?_)|(refine s_sadd rfl ?_ (h:=?_);(exact Z11_))|(refine p_sadd rfl ?_ (h:=?_);(exact Z11_))|fail "")
    generalize hp:[UInt8.ofNat (63+s),UInt8.ofNat t]=p at *
    have hpl:p.length≤200:=by rw [← hp];simp only [List.length_append,List.length_cons,List.length_nil];omega
    have hbl:=bigB_length n s
    refine r_for (fun j:Nat=>⟨[(1,.ptr 0 0 0 0),(5,.own 1),(8,.lit (.int .i64 ((s:Int) - 1 - j)))],[(0,some (.box 138 [.lit (.int .i64 2),.lit (.int .i64 t),.lit (.int .i64 f),.ro (tok.map encB),.lit (.int .i64 n),.lit (.int .i64 s)])),(1,some (.row 5 1 ((p++(bigB n s).take j).map encB)))],2,Tryz.f214.ntmps⟩)
      (fun j=>j≤s) (fun j=>s - j) 0 (Nat.zero_le _) (by rw [List.take_zero,List.append_nil];(exact lessA_)) ?_
    intro j hj
    have htl:((bigB n s).take j).length=j:=by rw [List.length_take];omega
    by_cases hjs:j<s
    · have e:=hd_byte (p:=p) (n:=n) (s:=s) (by omega) hjs
      have ej:(s:Int) - 1 - (j:Int)=((s - 1 - j:Nat):Int):=by omega
      (repeat' first|(refine s_app (r:=(p++(bigB n s).take (j+1)).map encB) ?_ ?_ ?_ ?_ (h:=?_);(exact Z63_);(exact Z47_);(exact Z12_);(exact Z22_))|(refine s_app0R (r:=(p++(bigB n s).take (j+1)).map encB) ?_ ?_ ?_ ?_ (h:=?_);(exact Z63_);(exact Z47_);(exact Z12_);(exact Z22_))|(refine p_app (r:=(p++(bigB n s).take (j+1)).map encB) ?_ ?_ ?_ ?_ (h:=?_);(exact Z63_);(exact Z47_);(exact Z12_);(exact Z22_))|(refine go_ ?_;((repeat' first|exact True.intro|refine Two.mk ?_ ?_);all_goals intros))|fail "")
      all_goals (refine ⟨j+1,?_,?_,?_⟩;rotate_left 2;(exact lessA_);(exact Z69_);(exact Z69_))
    · have:j=s:=by omega
      subst this
      rw [List.take_of_length_le (by omega)]
      (repeat' first|(refine go_ ?_;((repeat' first|exact True.intro|refine Two.mk ?_ ?_);all_goals intros))|fail "")
      all_goals (exact endmA_)
theorem headEncode_bad (h:DHead) (hw:wfHead h) (h0:¬ hdFlt h=0):Fn Tryz.prog 214 [.agg (encHead h)] (.tup [.ro [],.lit (.int .i64 (hdFlt h))]):=by
  have h1:=headCheck_fn h hw
  generalize hdFlt h=q at *
  refine fn_of_run (by kernel_rfl) Tryz.func214 rfl (by kernel_rfl) ?_
  (repeat' first|(refine s_call (h1) (h:=?_))|(refine p_call (h1) (h:=?_))|(refine go_ ?_;((repeat' first|exact True.intro|refine Two.mk ?_ ?_);all_goals intros))|fail "")
  all_goals (exact endwA_)
theorem bigB1 (m:Nat):bigB m 1=[UInt8.ofNat m]:=by simp [bigB]
theorem big1_fn (m:Nat):Fn Tryz.prog 172 [.lit (.int .u64 (m:Int)),.lit (.int .i64 1)] (.lit (.string (strB [UInt8.ofNat m]))):=by
  have:=big_fn m 1 (by omega)
  rw [bigB1] at this
  exact this
set_option maxHeartbeats 2000000 in
theorem headText_fn (h:DHead) (h0:hdFlt h=0):Fn Tryz.prog 191 [.agg (encHead h)] (.lit (.string (strB (hdB h)))):=by
  obtain ⟨g1,g2,g3,g4,g5,g6,g7,g8,g9,g10⟩:=hd_ok h0
  clear h0
  unfold hdB hdPre
  obtain ⟨K,T,F,tok,N,S⟩:=h
  dsimp only at *
  obtain ⟨s,rfl⟩:=Int.eq_ofNat_of_zero_le g6
  obtain ⟨n,rfl⟩:=Int.eq_ofNat_of_zero_le g5
  obtain ⟨t,rfl⟩:=Int.eq_ofNat_of_zero_le g3.1
  obtain ⟨f,rfl⟩:=Int.eq_ofNat_of_zero_le g4.1
  simp only [Int.toNat_natCast]
  have hv:=varText_fn tok.length (by omega)
  have hvl:=varB_length tok.length
  have hvk:=varK_cases tok.length
  have b1:=big1_fn t
  have b2:=big1_fn f
  have b3:=big_fn n s (by omega)
  have hbl:=bigB_length n s
  have hC:encHead ⟨K,t,f,tok,n,s⟩=[.lit (.int .i64 K),.lit (.int .i64 t),.lit (.int .i64 f),.ro (tok.map encB),.lit (.int .i64 n),.lit (.int .i64 s)]:=rfl
  rw [hC]
  generalize bigB n s=w at *
  rcases g1 with rfl|rfl|rfl
  · rw [if_neg (by omega),if_pos rfl]
    have g10:=g10 (by omega)
    have b4:Fn Tryz.prog 172 [.lit (.int .u64 (191+(s:Int))),.lit (.int .i64 1)] (.lit (.string (strB [UInt8.ofNat (191+s)]))):=by
      have:=big1_fn (191+s);rw [show ((191+s:Nat):Int)=191+(s:Int) by omega] at this;exact this
    generalize varB tok.length=v at *
    refine fn_of_run (by kernel_rfl) Tryz.func191 rfl (by kernel_rfl) ?_
    (repeat' first|(refine s_call (b4) (h:=?_))|(refine p_call (b4) (h:=?_))|(refine s_call (b1) (h:=?_))|(refine p_call (b1) (h:=?_))|(refine s_call (b2) (h:=?_))|(refine p_call (b2) (h:=?_))|(refine s_call (b3) (h:=?_))|(refine p_call (b3) (h:=?_))|(refine s_call (hv) (h:=?_))|(refine p_call (hv) (h:=?_))|(refine s_look (r:=(.int .i64 (191+(s:Int)))) ?_ (h:=?_);(focus (rfl)))|(refine go_ ?_;((repeat' first|exact True.intro|refine Two.mk ?_ ?_);all_goals intros))|fail "")
    all_goals first
      | exact ends_ (hr:=rfl)
      | skip
  · rw [if_neg (by omega),if_neg (by omega)]
    have b4:Fn Tryz.prog 172 [.lit (.int .u64 240),.lit (.int .i64 1)] (.lit (.string (strB [UInt8.ofNat 240]))):=big1_fn 240
    generalize varB tok.length=v at *
    obtain ⟨q1,q2⟩:=g9 rfl
    refine fn_of_run (by kernel_rfl) Tryz.func191 rfl (by kernel_rfl) ?_
    (repeat' first|(refine s_call (b4) (h:=?_))|(refine p_call (b4) (h:=?_))|(refine s_call (b1) (h:=?_))|(refine p_call (b1) (h:=?_))|(refine s_call (b2) (h:=?_))|(refine p_call (b2) (h:=?_))|(refine s_call (b3) (h:=?_))|(refine p_call (b3) (h:=?_))|(refine s_call (hv) (h:=?_))|(refine p_call (hv) (h:=?_))|(refine s_look (r:=(.int .i64 240)) ?_ (h:=?_);(focus (rfl)))|(refine go_ ?_;((repeat' first|exact True.intro|refine Two.mk ?_ ?_);all_goals intros))|fail "")
    all_goals first
      | exact ends_ (hr:=rfl)
      | skip
  · rw [if_pos rfl]
    have g10:=g10 (by omega)
    have b4:Fn Tryz.prog 172 [.lit (.int .u64 (63+(s:Int))),.lit (.int .i64 1)] (.lit (.string (strB [UInt8.ofNat (63+s)]))):=by
      have:=big1_fn (63+s);rw [show ((63+s:Nat):Int)=63+(s:Int) by omega] at this;exact this
    refine fn_of_run (by kernel_rfl) Tryz.func191 rfl (by kernel_rfl) ?_
    (repeat' first|(refine s_call (b4) (h:=?_))|(refine p_call (b4) (h:=?_))|(refine s_call (b1) (h:=?_))|(refine p_call (b1) (h:=?_))|(refine s_call (b3) (h:=?_))|(refine p_call (b3) (h:=?_))|(refine s_look (r:=(.int .i64 (63+(s:Int)))) ?_ (h:=?_);(focus (rfl)))|(refine go_ ?_;((repeat' first|exact True.intro|refine Two.mk ?_ ?_);all_goals intros))|fail "")
    all_goals first
      | exact ends_ (hr:=rfl)
      | skip
theorem hdB_len {h:DHead} (h0:hdFlt h=0):(hdB h).length≤200:=by
  obtain ⟨g1,g2,g3,g4,g5,g6,g7,g8,g9,g10⟩:=hd_ok h0
  have hvl:=varB_length h.Token.length
  have hvk:=varK_cases h.Token.length
  unfold hdB hdPre
  rw [List.length_append,bigB_length]
  split
  · simp only [List.length_cons,List.length_nil];omega
  · split
    · simp only [List.length_append,List.length_cons,List.length_nil];omega
    · simp only [List.length_append,List.length_cons,List.length_nil];omega
end Go.Proofs.YtendheafcbickaaGreat
