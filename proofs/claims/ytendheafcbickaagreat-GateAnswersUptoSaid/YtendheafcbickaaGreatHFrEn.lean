
import Derived.Test.YtendheafcbickaaGreatHZip
import Derived.Test.YtendheafcbickaaGreatHGo
import Derived.Test.YtendheafcbickaaGreatHMg10
import Derived.Test.YtendheafcbickaaGreatHPen
set_option linter.unusedVariables false
set_option linter.unusedSimpArgs false
set_option linter.unusedVariables false
namespace Go.Proofs.YtendheafcbickaaGreat
set_option maxRecDepth 100000
attribute [local irreducible] Run RunL QStep GStep Fn Less PL FnM
def kindB (f:DFrame):List UInt8:=if f.Kind=8 then (if f.Fin=true then [15] else [14]) else varB f.Kind.toNat
def pieceB (l:List DRange) (k:Nat):List UInt8:=
  if k=0 then varB (l.getD 0 default).Hi.toNat++varB ((l.length:Int) - 1).toNat++varB ((l.getD 0 default).Hi - (l.getD 0 default).Lo).toNat
  else varB ((l.getD (k - 1) default).Lo - (l.getD k default).Hi - 2).toNat++varB ((l.getD k default).Hi - (l.getD k default).Lo).toNat
def rgB (l:List DRange):Nat→List UInt8
  | 0=>[]
  | k+1=>rgB l k++pieceB l k
def optB (b:Bool) (l:List UInt8):List UInt8:=if b=true then l else []
def codeB (w c:Bool) (n:Int):List UInt8:=if w=true then bigB n.toNat 8 else optB c (varB n.toNat)
def frB (f:DFrame):List UInt8:=kindB f++rgB f.Ranges f.Ranges.length++optB (hasI (hasB f.Kind) 105) (varB f.Id.toNat)++optB (hasI (hasB f.Kind) 111) (varB f.Off.toNat)++codeB (hasI (hasB f.Kind) 119) (hasI (hasB f.Kind) 99) f.Code++optB (hasI (hasB f.Kind) 100) (varB f.Data.length++f.Data)
theorem pieceB_len (l:List DRange) (k:Nat):(pieceB l k).length≤24:=by
  unfold pieceB
  split
  · rw [List.length_append,List.length_append]
    have:=varB8 (l.getD 0 default).Hi.toNat
    have:=varB8 ((l.length:Int) - 1).toNat
    have:=varB8 ((l.getD 0 default).Hi - (l.getD 0 default).Lo).toNat
    omega
  · rw [List.length_append]
    have:=varB8 ((l.getD (k - 1) default).Lo - (l.getD k default).Hi - 2).toNat
    have:=varB8 ((l.getD k default).Hi - (l.getD k default).Lo).toNat
    omega
theorem rgB_len (l:List DRange):∀ k,(rgB l k).length≤24 * k
  | 0=>by simp [rgB]
  | k+1=>by
    have h1:=rgB_len l k
    have h2:=pieceB_len l k
    unfold rgB
    rw [List.length_append];omega
theorem kindB_len (f:DFrame):(kindB f).length≤8:=by
  unfold kindB
  split
  · split <;> decide
  · exact varB8 _
theorem optB_len {b:Bool} {l:List UInt8} {n:Nat} (h:l.length≤n):(optB b l).length≤n:=by
  unfold optB;split
  · exact h
  · simp
theorem codeB_len (w c:Bool) (n:Int):(codeB w c n).length≤8:=by
  unfold codeB;split
  · rw [bigB_length];exact Nat.le_refl _
  · exact optB_len (varB8 _)
theorem fr_ok {f:DFrame} (h:frFlt f=0):kOk f.Kind=true∧f.Data.length≤120∧f.Ranges.length≤6∧(0≤f.Id∧f.Id≤4611686018427387903)∧(0≤f.Off∧f.Off≤4611686018427387903)∧(0≤f.Code∧f.Code≤4611686018427387903)∧AllTo (downQ f.Ranges) f.Ranges.length:=by
  unfold frFlt at h
  split at h
  · cases h
  split at h
  · cases h
  split at h
  · cases h
  split at h
  · cases h
  split at h
  · cases h
  rename_i h1 h2 h3 h4 h5
  have m1:mayP (hasI (hasB f.Kind) 105) f.Id:=Classical.byContradiction fun c=>h3 (.inl c)
  have m2:mayP (hasI (hasB f.Kind) 111) f.Off:=Classical.byContradiction fun c=>h3 (.inr (.inl c))
  have m3:mayP (hasI (hasB f.Kind) 99 || hasI (hasB f.Kind) 119) f.Code:=Classical.byContradiction fun c=>h3 (.inr (.inr c))
  have m4:rFlt f.Ranges.reverse=0:=Classical.byContradiction fun c=>h5 (.inr (.inr (.inr c)))
  exact ⟨by simpa using h1,by omega,by omega,⟨m1.1,m1.2.1⟩,⟨m2.1,m2.2.1⟩,⟨m3.1,m3.2.1⟩,(told_iff _).2 m4⟩
theorem kOk_range {k:Int} (h:kOk k=true):0≤k∧k≤30:=by
  unfold kOk at h
  have:=of_decide_eq_true h
  omega
theorem word_byte {p:List UInt8} {n j:Nat} (h:j<8):(p++(bigB n 8).take j).map encB++[[.lit (.int .u8 (IntKind.u8.wrap ((n:Int).fdiv (2 ^ min (8 * (7 - (j:Int))).toNat IntKind.i64.bits))))]]=(p++(bigB n 8).take (j+1)).map encB:=by
  rw [take_snoc (by rw [bigB_length];exact h),← List.append_assoc,List.map_append (l₂:=[_]),List.map_cons,List.map_nil,bigB_get n 8 j h,encB_ofNat]
  rw [show min (8 * (7 - (j:Int))).toNat IntKind.i64.bits=8 * (8 - 1 - j) by (show min (8 * (7 - (j:Int))).toNat 64=_;omega),fdiv_two_pow,Nat.pow_mul]
set_option maxHeartbeats 4000000 in
theorem frameEncode_ok (f:DFrame) (hw:wfFrame f) (h0:frFlt f=0):Fn Tryz.prog 215 [.agg (encFrame f)] (.tup [.ro ((frB f).map encB),.lit (.int .i64 0)]):=by
  have h1:=frameCheck_fn f hw
  rw [h0] at h1
  obtain ⟨k1,k2,k3,k4,k5,k6,k7⟩:=fr_ok h0
  have k8:=kOk_range k1
  have h2:=partsOf_fn f.Kind
  rw [k1] at h2
  unfold encPs at h2
  have hkb:=kindB_len f
  have hrl:=rgB_len f.Ranges
  unfold frB
  have hco:codeB (hasI (hasB f.Kind) 119) (hasI (hasB f.Kind) 99) f.Code=codeB (hasI (hasB f.Kind) 119) (hasI (hasB f.Kind) 99 || hasI (hasB f.Kind) 119) f.Code:=by
    unfold codeB
    cases hasI (hasB f.Kind) 119
    · rw [Bool.or_false]
    · rfl
  rw [hco]
  clear hco
  generalize hasI (hasB f.Kind) 105=bi at *
  generalize hasI (hasB f.Kind) 111=bo at *
  generalize (hasI (hasB f.Kind) 99 || hasI (hasB f.Kind) 119)=bc at *
  generalize hasI (hasB f.Kind) 119=bw at *
  generalize hasI (hasB f.Kind) 100=bd at *
  generalize hasI (hasB f.Kind) 102=bf at *
  have e:encFrame f=[.lit (.int .i64 f.Kind),.lit (.int .i64 f.Id),.lit (.int .i64 f.Off),.lit (.bool f.Fin),.lit (.int .i64 f.Code),.ro (f.Ranges.map encRange),.ro (f.Data.map encB)]:=rfl
  rw [e] at h1 ⊢
  clear e hw h0 k1
  refine fn_of_run (by kernel_rfl) Tryz.func215 rfl (by kernel_rfl) ?_
  (repeat' first|(refine s_call (h1) (h:=?_))|(refine p_call (h1) (h:=?_))|(refine s_call (h2) (h:=?_))|(refine p_call (h2) (h:=?_))|(refine goU_ 7 ?_;((repeat' first|exact True.intro|refine Two.mk ?_ ?_);all_goals intros))|fail "")
  refine r_cut (fun _:Unit=>⟨[(1,.ptr 0 0 0 0),(5,.ptr 1 0 0 0),(6,.ptr 2 0 0 0)],[(0,some (.box 111 [.lit (.int .i64 f.Kind),.lit (.int .i64 f.Id),.lit (.int .i64 f.Off),.lit (.bool f.Fin),.lit (.int .i64 f.Code),.ro (f.Ranges.map encRange),.ro (f.Data.map encB)])),(1,some (.box 333 [.own 3])),(2,some (.box 200 [.lit (.bool bi),.lit (.bool bo),.lit (.bool bc),.lit (.bool bd),.lit (.bool bf),.lit (.bool bw)])),(3,some (.row 5 1 ((kindB f).map encB)))],4,Tryz.f215.ntmps⟩)
    (fun _=>True) ?_ ?_
  · unfold kindB
    clear hkb h1 h2
    generalize f.Fin=fin at *
    have p1:=put_nil f.Kind (by omega)
    have p2:=put_nil 14 (by omega)
    have p3:=put_nil 15 (by omega)
    rw [show varB (14:Int).toNat=[14] from by decide] at p2
    rw [show varB (15:Int).toNat=[15] from by decide] at p3
    by_cases h8:f.Kind=8
    · rw [if_pos h8]
      cases fin
      all_goals (repeat' first|(refine s_callM [1] (p2) (h:=?_))|(refine p_callM [1] (p2) (h:=?_))|(refine s_callM [1] (p3) (h:=?_))|(refine p_callM [1] (p3) (h:=?_))|(refine go_ ?_;((repeat' first|exact True.intro|refine Two.mk ?_ ?_);all_goals intros))|fail "")
      all_goals first
        | (refine ⟨(),?_,?_⟩;rotate_left 1;(exact lessA_);(exact Z68_))
        | skip
    · rw [if_neg h8]
      (repeat' first|(refine s_callM [1] (p1) (h:=?_))|(refine p_callM [1] (p1) (h:=?_))|(refine go_ ?_;((repeat' first|exact True.intro|refine Two.mk ?_ ?_);all_goals intros))|fail "")
      all_goals first
        | (refine ⟨(),?_,?_⟩;rotate_left 1;(exact lessA_);(exact Z68_))
        | skip
  intro _ _
  generalize kindB f=q at *
  clear h1 h2
  (repeat' first|(refine go_ ?_;((repeat' first|exact True.intro|refine Two.mk ?_ ?_);all_goals intros))|fail "")
  refine r_for (fun k:Nat=>⟨[(1,.ptr 0 0 0 0),(5,.ptr 1 0 0 0),(6,.ptr 2 0 0 0),(48,.ro (f.Ranges.map encRange)),(49,.lit (.int .i64 f.Ranges.length)),(50,.lit (.int .i64 k))],[(0,some (.box 111 [.lit (.int .i64 f.Kind),.lit (.int .i64 f.Id),.lit (.int .i64 f.Off),.lit (.bool f.Fin),.lit (.int .i64 f.Code),.ro (f.Ranges.map encRange),.ro (f.Data.map encB)])),(1,some (.box 333 [.own 3])),(2,some (.box 200 [.lit (.bool bi),.lit (.bool bo),.lit (.bool bc),.lit (.bool bd),.lit (.bool bf),.lit (.bool bw)])),(3,some (.row 5 1 ((q++rgB f.Ranges k).map encB)))],4,Tryz.f215.ntmps⟩)
    (fun k=>k≤f.Ranges.length) (fun k=>f.Ranges.length - k) 0 (Nat.zero_le _) (by rw [show rgB f.Ranges 0=[] from rfl,List.append_nil];(exact lessA_)) ?_
  intro k hk
  by_cases hkn:k<f.Ranges.length
  · have hg:=k7 k hkn
    have hr:=hrl k
    have hrs:rgB f.Ranges (k+1)=rgB f.Ranges k++pieceB f.Ranges k:=rfl
    have hpq:(q++rgB f.Ranges k).length≤500:=by rw [List.length_append];omega
    have hgood:=hg.1
    unfold rGood at hgood
    by_cases hk0:k=0
    · subst hk0
      have p3:=put3 (f.Ranges.getD 0 default).Hi ((f.Ranges.length:Int) - 1) ((f.Ranges.getD 0 default).Hi - (f.Ranges.getD 0 default).Lo) (q++rgB f.Ranges 0) (by omega) (by omega) (by omega) (by omega)
      rw [show varB (f.Ranges.getD 0 default).Hi.toNat++varB ((f.Ranges.length:Int) - 1).toNat++varB ((f.Ranges.getD 0 default).Hi - (f.Ranges.getD 0 default).Lo).toNat=pieceB f.Ranges 0 from (if_pos rfl).symm,List.append_assoc,← hrs] at p3
      clear hrs hr hpq k7 hrl
      (repeat' first|(refine s_callM [1,3] (p3) (h:=?_))|(refine p_callM [1,3] (p3) (h:=?_))|(refine go_ ?_;((repeat' first|exact True.intro|refine Two.mk ?_ ?_);all_goals intros))|fail "")
      all_goals first
        | (refine ⟨0+1,?_,?_,?_⟩;rotate_left 2;(exact lessA_);(exact Z69_);(exact Z69_))
        | skip
    · have ek:(k:Int) - 1=((k - 1:Nat):Int):=by omega
      have hg0:=(k7 (k - 1) (by omega)).1
      unfold rGood at hg0
      have hg2:(f.Ranges.getD k default).Hi+1<(f.Ranges.getD (k - 1) default).Lo:=by rcases hg.2 with h|h;omega;exact h
      have p2:=put2 ((f.Ranges.getD (k - 1) default).Lo - (f.Ranges.getD k default).Hi - 2) ((f.Ranges.getD k default).Hi - (f.Ranges.getD k default).Lo) (q++rgB f.Ranges k) (by omega) (by omega) (by omega)
      rw [show varB ((f.Ranges.getD (k - 1) default).Lo - (f.Ranges.getD k default).Hi - 2).toNat++varB ((f.Ranges.getD k default).Hi - (f.Ranges.getD k default).Lo).toNat=pieceB f.Ranges k from (if_neg hk0).symm,List.append_assoc,← hrs] at p2
      clear hrs hr hpq k7 hrl hg
      (repeat' first|(refine s_callM [1,3] (p2) (h:=?_))|(refine p_callM [1,3] (p2) (h:=?_))|(refine go_ ?_;((repeat' first|exact True.intro|refine Two.mk ?_ ?_);all_goals intros))|fail "")
      all_goals first
        | (refine ⟨k+1,?_,?_,?_⟩;rotate_left 2;(exact lessA_);(exact Z69_);(exact Z69_))
        | skip
  have:k=f.Ranges.length:=by omega
  subst this
  have hq1:(q++rgB f.Ranges f.Ranges.length).length≤500:=by rw [List.length_append];have:=hrl f.Ranges.length;omega
  generalize q++rgB f.Ranges f.Ranges.length=q1 at *
  clear hkb hrl hk hkn k7 k3
  (repeat' first|(refine goU_ 18 ?_;((repeat' first|exact True.intro|refine Two.mk ?_ ?_);all_goals intros))|fail "")
  refine r_cut (fun _:Unit=>⟨[(1,.ptr 0 0 0 0),(5,.ptr 1 0 0 0),(6,.ptr 2 0 0 0)],[(0,some (.box 111 [.lit (.int .i64 f.Kind),.lit (.int .i64 f.Id),.lit (.int .i64 f.Off),.lit (.bool f.Fin),.lit (.int .i64 f.Code),.ro (f.Ranges.map encRange),.ro (f.Data.map encB)])),(1,some (.box 333 [.own 3])),(2,some (.box 200 [.lit (.bool bi),.lit (.bool bo),.lit (.bool bc),.lit (.bool bd),.lit (.bool bf),.lit (.bool bw)])),(3,some (.row 5 1 ((q1++optB bi (varB f.Id.toNat)).map encB)))],4,Tryz.f215.ntmps⟩) (fun _=>True) ?_ ?_
  · have p:=put1 f.Id q1 k4 (by omega)
    cases bi
    · rw [show optB false (varB f.Id.toNat)=[] from rfl,List.append_nil]
      (repeat' first|(refine go_ ?_;((repeat' first|exact True.intro|refine Two.mk ?_ ?_);all_goals intros))|fail "")
      all_goals first
        | (refine ⟨(),?_,?_⟩;rotate_left 1;(exact lessA_);(exact Z68_))
        | skip
    · rw [show optB true (varB f.Id.toNat)=varB f.Id.toNat from rfl]
      (repeat' first|(refine s_callM [1,3] (p) (h:=?_))|(refine p_callM [1,3] (p) (h:=?_))|(refine go_ ?_;((repeat' first|exact True.intro|refine Two.mk ?_ ?_);all_goals intros))|fail "")
      all_goals first
        | (refine ⟨(),?_,?_⟩;rotate_left 1;(exact lessA_);(exact Z68_))
        | skip
  intro _ _
  have hq2:(q1++optB bi (varB f.Id.toNat)).length≤510:=by rw [List.length_append];have:=optB_len (b:=bi) (varB8 f.Id.toNat);omega
  generalize q1++optB bi (varB f.Id.toNat)=q2 at *
  clear hq1
  (repeat' first|(refine goU_ 20 ?_;((repeat' first|exact True.intro|refine Two.mk ?_ ?_);all_goals intros))|fail "")
  refine r_cut (fun _:Unit=>⟨[(1,.ptr 0 0 0 0),(5,.ptr 1 0 0 0),(6,.ptr 2 0 0 0)],[(0,some (.box 111 [.lit (.int .i64 f.Kind),.lit (.int .i64 f.Id),.lit (.int .i64 f.Off),.lit (.bool f.Fin),.lit (.int .i64 f.Code),.ro (f.Ranges.map encRange),.ro (f.Data.map encB)])),(1,some (.box 333 [.own 3])),(2,some (.box 200 [.lit (.bool bi),.lit (.bool bo),.lit (.bool bc),.lit (.bool bd),.lit (.bool bf),.lit (.bool bw)])),(3,some (.row 5 1 ((q2++optB bo (varB f.Off.toNat)).map encB)))],4,Tryz.f215.ntmps⟩) (fun _=>True) ?_ ?_
  · have p:=put1 f.Off q2 k5 (by omega)
    cases bo
    · rw [show optB false (varB f.Off.toNat)=[] from rfl,List.append_nil]
      (repeat' first|(refine go_ ?_;((repeat' first|exact True.intro|refine Two.mk ?_ ?_);all_goals intros))|fail "")
      all_goals first
        | (refine ⟨(),?_,?_⟩;rotate_left 1;(exact lessA_);(exact Z68_))
        | skip
    · rw [show optB true (varB f.Off.toNat)=varB f.Off.toNat from rfl]
      (repeat' first|(refine s_callM [1,3] (p) (h:=?_))|(refine p_callM [1,3] (p) (h:=?_))|(refine go_ ?_;((repeat' first|exact True.intro|refine Two.mk ?_ ?_);all_goals intros))|fail "")
      all_goals first
        | (refine ⟨(),?_,?_⟩;rotate_left 1;(exact lessA_);(exact Z68_))
        | skip
  intro _ _
  have hq3:(q2++optB bo (varB f.Off.toNat)).length≤520:=by rw [List.length_append];have:=optB_len (b:=bo) (varB8 f.Off.toNat);omega
  generalize q2++optB bo (varB f.Off.toNat)=q3 at *
  clear hq2
  (repeat' first|(refine goU_ 22 ?_;((repeat' first|exact True.intro|refine Two.mk ?_ ?_);all_goals intros))|fail "")
  refine r_cut (fun _:Unit=>⟨[(1,.ptr 0 0 0 0),(5,.ptr 1 0 0 0),(6,.ptr 2 0 0 0)],[(0,some (.box 111 [.lit (.int .i64 f.Kind),.lit (.int .i64 f.Id),.lit (.int .i64 f.Off),.lit (.bool f.Fin),.lit (.int .i64 f.Code),.ro (f.Ranges.map encRange),.ro (f.Data.map encB)])),(1,some (.box 333 [.own 3])),(2,some (.box 200 [.lit (.bool bi),.lit (.bool bo),.lit (.bool bc),.lit (.bool bd),.lit (.bool bf),.lit (.bool bw)])),(3,some (.row 5 1 ((q3++codeB bw bc f.Code).map encB)))],4,Tryz.f215.ntmps⟩) (fun _=>True) ?_ ?_
  · have p:=put1 f.Code q3 k6 (by omega)
    unfold codeB
    cases bw
    · rw [if_neg (by simp)]
      cases bc
      · rw [show optB false (varB f.Code.toNat)=[] from rfl,List.append_nil]
        (repeat' first|(refine go_ ?_;((repeat' first|exact True.intro|refine Two.mk ?_ ?_);all_goals intros))|fail "")
        all_goals first
          | (refine ⟨(),?_,?_⟩;rotate_left 1;(exact lessA_);(exact Z68_))
          | skip
      · rw [show optB true (varB f.Code.toNat)=varB f.Code.toNat from rfl]
        (repeat' first|(refine s_callM [1,3] (p) (h:=?_))|(refine p_callM [1,3] (p) (h:=?_))|(refine go_ ?_;((repeat' first|exact True.intro|refine Two.mk ?_ ?_);all_goals intros))|fail "")
        all_goals first
          | (refine ⟨(),?_,?_⟩;rotate_left 1;(exact lessA_);(exact Z68_))
          | skip
    · rw [if_pos rfl]
      obtain ⟨n,hn⟩:=Int.eq_ofNat_of_zero_le k6.1
      rw [hn]
      rw [Int.toNat_natCast]
      have hbl:=bigB_length n 8
      (repeat' first|(refine go_ ?_;((repeat' first|exact True.intro|refine Two.mk ?_ ?_);all_goals intros))|fail "")
      refine r_for (fun j:Nat=>⟨[(1,.ptr 0 0 0 0),(5,.ptr 1 0 0 0),(6,.ptr 2 0 0 0),(10,.lit (.int .i64 (7 - (j:Int))))],[(0,some (.box 111 [.lit (.int .i64 f.Kind),.lit (.int .i64 f.Id),.lit (.int .i64 f.Off),.lit (.bool f.Fin),.lit (.int .i64 (n:Int)),.ro (f.Ranges.map encRange),.ro (f.Data.map encB)])),(1,some (.box 333 [.own 3])),(2,some (.box 200 [.lit (.bool bi),.lit (.bool bo),.lit (.bool bc),.lit (.bool bd),.lit (.bool bf),.lit (.bool true)])),(3,some (.row 5 1 ((q3++(bigB n 8).take j).map encB)))],4,Tryz.f215.ntmps⟩)
        (fun j=>j≤8) (fun j=>8 - j) 0 (Nat.zero_le _) (by rw [List.take_zero,List.append_nil];(exact lessA_)) ?_
      intro j hj
      have htl:((bigB n 8).take j).length=j:=by rw [List.length_take];omega
      by_cases hj8:j<8
      · have e:=word_byte (p:=q3) (n:=n) hj8
        (repeat' first|(refine s_app (r:=(q3++(bigB n 8).take (j+1)).map encB) ?_ ?_ ?_ ?_ (h:=?_);(exact Z63_);(exact Z47_);(exact Z12_);(exact Z22_))|(refine s_app0R (r:=(q3++(bigB n 8).take (j+1)).map encB) ?_ ?_ ?_ ?_ (h:=?_);(exact Z63_);(exact Z47_);(exact Z12_);(exact Z22_))|(refine p_app (r:=(q3++(bigB n 8).take (j+1)).map encB) ?_ ?_ ?_ ?_ (h:=?_);(exact Z63_);(exact Z47_);(exact Z12_);(exact Z22_))|(refine go_ ?_;((repeat' first|exact True.intro|refine Two.mk ?_ ?_);all_goals intros))|fail "")
        all_goals first
          | (refine ⟨j+1,?_,?_,?_⟩;rotate_left 2;(exact lessA_);(exact Z69_);(exact Z69_))
          | skip
      · rw [List.take_of_length_le (by omega)]
        (repeat' first|(refine go_ ?_;((repeat' first|exact True.intro|refine Two.mk ?_ ?_);all_goals intros))|fail "")
        all_goals first
          | (refine ⟨(),?_,?_⟩;rotate_left 1;(exact lessA_);(exact Z68_))
          | skip
  intro _ _
  have hq4:(q3++codeB bw bc f.Code).length≤530:=by rw [List.length_append];have:=codeB_len bw bc f.Code;omega
  generalize q3++codeB bw bc f.Code=q4 at *
  clear hq3
  have p:=put1 (f.Data.length:Int) q4 (by omega) (by omega)
  rw [Int.toNat_natCast] at p
  have hv:=varB8 f.Data.length
  cases bd
  · rw [show optB false (varB f.Data.length++f.Data)=[] from rfl,List.append_nil]
    (repeat' first|(refine go_ ?_;((repeat' first|exact True.intro|refine Two.mk ?_ ?_);all_goals intros))|fail "")
    all_goals first
      | exact ends_ (hr:=rfl)
      | skip
  · rw [show optB true (varB f.Data.length++f.Data)=varB f.Data.length++f.Data from rfl]
    (repeat' first|(refine s_callM [1,3] (p) (h:=?_))|(refine p_callM [1,3] (p) (h:=?_))|(refine s_app (r:=(q4++varB f.Data.length++f.Data).map encB) ?_ ?_ ?_ ?_ (h:=?_);(exact Z53_);(exact Z47_);(exact Z12_);(exact Z22_))|(refine s_app0R (r:=(q4++varB f.Data.length++f.Data).map encB) ?_ ?_ ?_ ?_ (h:=?_);(exact Z53_);(exact Z47_);(exact Z12_);(exact Z22_))|(refine p_app (r:=(q4++varB f.Data.length++f.Data).map encB) ?_ ?_ ?_ ?_ (h:=?_);(exact Z53_);(exact Z47_);(exact Z12_);(exact Z22_))|(refine go_ ?_;((repeat' first|exact True.intro|refine Two.mk ?_ ?_);all_goals intros))|fail "")
    all_goals first
      | (refine ends_ (hr:=?_);rw [List.append_assoc])
      | skip
theorem frameEncode_bad (f:DFrame) (hw:wfFrame f) (h0:¬ frFlt f=0):Fn Tryz.prog 215 [.agg (encFrame f)] (.tup [.ro [],.lit (.int .i64 (frFlt f))]):=by
  have h1:=frameCheck_fn f hw
  generalize frFlt f=q at *
  refine fn_of_run (by kernel_rfl) Tryz.func215 rfl (by kernel_rfl) ?_
  (repeat' first|(refine s_call (h1) (h:=?_))|(refine p_call (h1) (h:=?_))|(refine go_ ?_;((repeat' first|exact True.intro|refine Two.mk ?_ ?_);all_goals intros))|fail "")
  all_goals (exact endwA_)
end Go.Proofs.YtendheafcbickaaGreat
