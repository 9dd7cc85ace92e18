/-
  SEVERAL TEXTS IN ONE: each with its own comment.
-/
import Derived.Test.YtendheafcbickaaGreatZip
import Derived.Test.YtendheafcbickaaGreatGo
import Derived.Test.YtendheafcbickaaGreatMg05
import Derived.Test.YtendheafcbickaaGreatCnF
import Derived.Test.YtendheafcbickaaGreatCnFr

set_option linter.unusedVariables false
set_option linter.unusedSimpArgs false
set_option linter.unusedVariables false
namespace Go.Proofs.YtendheafcbickaaGreat
set_option maxRecDepth 100000
attribute [local irreducible] Run RunL QStep GStep Fn Less PL FnM
def lnNew (id:Int):DLane:=⟨id,⟨0,[],-1,300⟩,[],false,false,⟨[],false,0,300,[],[],false,false⟩⟩
def cnOpened (c:DConn):DConn:={ c with Lanes:=c.Lanes++[lnNew c.Opened],Opened:=c.Opened+1 }
noncomputable def cnOpenR (c:DConn):DConn×Int×Int:=
  if cnFlt c=0 then (if c.Closed=true then (default,0,17) else if c.Client=false then (default,0,2) else if c.Opened ≥ c.Ids∨c.Lanes.length=4 then (default,0,8) else (cnOpened c,c.Opened,0)) else (default,0,9)
def encCnIE (r:DConn×Int×Int):V:=.tup [.agg (encConn r.1),.lit (.int .i64 r.2.1),.lit (.int .i64 r.2.2)]
def lnRaw (id:Int):List V:=[.lit (.int .i64 id),.lit (.int .i64 0),.lit (.slice none 0 0),.lit (.int .i64 (-1)),.lit (.int .i64 300),.lit (.slice none 0 0),.lit (.bool false),.lit (.bool false),.lit (.slice none 0 0),.lit (.bool false),.lit (.int .i64 0),.lit (.int .i64 300),.lit (.slice none 0 0),.lit (.slice none 0 0),.lit (.bool false),.lit (.bool false)]
theorem lnRaw_wk (id:Int):∀ j,j<(lnRaw id).length→WkC (cAt (lnRaw id) j) (cAt (encLane (lnNew id)) j):=by
  intro j hj
  have hj:j<16:=hj
  match j,hj with
  | 0,_|1,_|3,_|4,_|6,_|7,_|9,_|10,_|11,_|14,_|15,_=>exact .inl rfl
  | 2,_|5,_|8,_|12,_|13,_=>exact .inr ⟨rfl,rfl⟩
  | n+16,h=>omega
set_option maxHeartbeats 4000000 in
theorem endOpen_fnm (c:DConn) (hl:c.Lanes.length≤1000000) (ho:I64 c.Opened) (ho2:c.Opened≤4611686018427387904) :
    FnM Tryz.prog 115 [.ptr 0 0 0 0] [(0,some (.box 116 (connC c (.own 1) (.own 2)))),(1,some (.row 134 16 (c.Lanes.map encLane))),(2,some (.row 111 7 (c.Queue.map encFrame)))] 3
      (.ptr 3 c.Lanes.length 16 0) [(0,some (.box 116 (connC (cnOpened c) (.own 3) (.own 2)))),(3,some (.row 134 16 ((cnOpened c).Lanes.map encLane))),(2,some (.row 111 7 (c.Queue.map encFrame)))] 4:=by
  have h1:=gatherBegin_fn 300
  rw [if_neg (by omega),if_neg (by omega)] at h1
  unfold I64 at ho
  have hlen:(c.Lanes++[lnNew c.Opened]).length=c.Lanes.length+1:=by simp
  have hix:IntKind.i64.wrap ((((c.Lanes++[lnNew c.Opened]).map encLane).length:Int) - 1)=((c.Lanes.length:Nat):Int):=by
    rw [List.length_map,hlen,IntKind.wrap_i64];omega
  have hin:c.Lanes.length<((c.Lanes++[lnNew c.Opened]).map encLane).length:=by rw [List.length_map,hlen];omega
  unfold connC cnOpened
  dsimp only
  refine fnm_of_run (by kernel_rfl) Tryz.func115 rfl (by kernel_rfl) (by rfl) ?_
  (repeat' first|(refine s_call (h1) (h:=?_))|(refine p_call (h1) (h:=?_))|(refine s_app (r:=c.Lanes.map encLane++[lnRaw c.Opened]) ?_ ?_ ?_ ?_ (h:=?_);(exact Z63_);(exact Z42_);(exact Z10_);(exact Z21_))|(refine s_app0R (r:=c.Lanes.map encLane++[lnRaw c.Opened]) ?_ ?_ ?_ ?_ (h:=?_);(exact Z63_);(exact Z42_);(exact Z10_);(exact Z21_))|(refine p_app (r:=c.Lanes.map encLane++[lnRaw c.Opened]) ?_ ?_ ?_ ?_ (h:=?_);(exact Z63_);(exact Z42_);(exact Z10_);(exact Z21_))|(refine goU_ 3 ?_;((repeat' first|exact True.intro|refine Two.mk ?_ ?_);all_goals intros))|fail "")
  refine r_less (st':=⟨[(0,.ptr 0 0 0 0)],[(0,some (.box 116 [.lit (.bool c.Client),.lit (.int .i64 c.Space.Next),.ro (c.Space.Sent.map encParcel),.lit (.int .i64 c.Space.Top),.ro (c.Space.Heard.map encRange),.ro (c.Space.Skip.map encI),.lit (.int .i64 c.Pace.Window),.lit (.int .i64 c.Pace.Thresh),.lit (.int .i64 c.Pace.Flying),.lit (.int .i64 c.Pace.Since),.lit (.int .i64 c.Flow.Max),.lit (.int .i64 c.Flow.Used),.lit (.int .i64 c.Credit.Max),.lit (.int .i64 c.Credit.Used),.lit (.int .i64 c.Ids),.lit (.int .i64 c.Grant),.lit (.int .i64 c.Opened),.own 3,.lit (.bool c.Owes),.own 2,.lit (.int .i64 c.Last),.lit (.int .i64 c.Resets),.lit (.bool c.Closed),.lit (.int .i64 c.Code)])),(2,some (.row 111 7 (c.Queue.map encFrame))),(3,some (.row 134 16 (c.Lanes.map encLane++[lnRaw c.Opened])))],4,Tryz.f115.ntmps⟩) (by (exact lessA_)) ?_
  refine r_less (less_rowS (e:=134) (s:=16) (l:=c.Lanes.map encLane) (c:=lnRaw c.Opened) (c':=encLane (lnNew c.Opened)) (id:=3) rfl (lnRaw_wk c.Opened) rfl) ?_
  rw [show c.Lanes.map encLane++[encLane (lnNew c.Opened)]=(c.Lanes++[lnNew c.Opened]).map encLane from (by rw [List.map_append];rfl)]
  (repeat' first|(refine goU_ 4 ?_;((repeat' first|exact True.intro|refine Two.mk ?_ ?_);all_goals intros))|fail "")
  refine r_less (st':=⟨[(0,.ptr 0 0 0 0)],[(0,some (.box 116 [.lit (.bool c.Client),.lit (.int .i64 c.Space.Next),.ro (c.Space.Sent.map encParcel),.lit (.int .i64 c.Space.Top),.ro (c.Space.Heard.map encRange),.ro (c.Space.Skip.map encI),.lit (.int .i64 c.Pace.Window),.lit (.int .i64 c.Pace.Thresh),.lit (.int .i64 c.Pace.Flying),.lit (.int .i64 c.Pace.Since),.lit (.int .i64 c.Flow.Max),.lit (.int .i64 c.Flow.Used),.lit (.int .i64 c.Credit.Max),.lit (.int .i64 c.Credit.Used),.lit (.int .i64 c.Ids),.lit (.int .i64 c.Grant),.lit (.int .i64 (c.Opened+1)),.own 3,.lit (.bool c.Owes),.own 2,.lit (.int .i64 c.Last),.lit (.int .i64 c.Resets),.lit (.bool c.Closed),.lit (.int .i64 c.Code)])),(2,some (.row 111 7 (c.Queue.map encFrame))),(3,some (.row 134 16 ((c.Lanes++[lnNew c.Opened]).map encLane)))],4,Tryz.f115.ntmps⟩) (by (exact lessA_)) ?_
  (repeat' first|refine p_ih (hq:=fun N=>q_index_row rfl rfl rfl rfl hix hin rfl rfl)|(refine goI_ ?_;((repeat' first|exact True.intro|refine Two.mk ?_ ?_);all_goals intros))|refine s_i (h:=?_)|refine s_i (hq:=q_index_ro rfl rfl rfl (by first|exact lit0|exact lit1|exact lit2|rfl) (by simp only [List.length_cons,List.length_nil];omega) rfl rfl rfl rfl) (h:=?_)|refine p_i (h:=?_)|refine p_ih (h:=?_)|refine s_lit (h:=?_)|refine p_lit (h:=?_)|refine p_lit0 (h:=?_)|refine s_lit0 (h:=?_)|refine s_ixa (h:=?_)|refine s_insert (h:=?_)|(refine s_sadd rfl ?_ (h:=?_);(exact Z9_))|(refine p_sadd rfl ?_ (h:=?_);(exact Z9_))|fail "")
  all_goals rw [hix,Int.toNat_natCast]
  all_goals first
    | (exact endmA_)
    | skip
def lnIx:List DLane→Int→Nat
  | [],_=>0
  | l :: r,id=>if l.Id=id then 0 else lnIx r id+1
theorem lnIx_le:∀ (l:List DLane) (id:Int),lnIx l id≤l.length
  | [],_=>Nat.le_refl _
  | l :: r,id=>by
    unfold lnIx
    split
    · simp
    · have:=lnIx_le r id;simp;omega
theorem lnIx_at:∀ (l:List DLane) (id:Int),lnIx l id<l.length→(l.getD (lnIx l id) default).Id=id
  | [],_,h=>by simp [lnIx] at h
  | l :: r,id,h=>by
    unfold lnIx at h ⊢
    split
    · rename_i e;simpa using e
    · rename_i e
      rw [if_neg e] at h
      have:=lnIx_at r id (by simpa using h)
      simpa using this
theorem lnIx_bef:∀ (l:List DLane) (id:Int) (k:Nat),k<lnIx l id→(l.getD k default).Id≠id
  | [],_,k,h=>by simp [lnIx] at h
  | l :: r,id,k,h=>by
    unfold lnIx at h
    split at h
    · omega
    · rename_i e
      cases k with
      | zero=>simpa using e
      | succ k=>simpa using lnIx_bef r id k (by omega)
theorem lnIx_of {l:List DLane} {id:Int} {k:Nat} (hk:k<l.length) (h1:k≤lnIx l id) (h2:(l.getD k default).Id=id):lnIx l id=k:=by
  rcases Nat.lt_or_ge k (lnIx l id) with h|h
  · exact absurd h2 (lnIx_bef l id k h)
  · omega
theorem lnIx_step {l:List DLane} {id:Int} {k:Nat} (hk:k<l.length) (h1:k≤lnIx l id) (h2:¬ (l.getD k default).Id=id):k+1≤lnIx l id:=by
  rcases Nat.lt_or_ge k (lnIx l id) with h|h
  · exact h
  · have e:lnIx l id=k:=by omega
    exact absurd (e ▸ lnIx_at l id (by omega)) h2
def lnP (l:List DLane) (id:Int):V:=if lnIx l id<l.length then .ptr 1 (lnIx l id) 16 0 else .lit (.pointer none)
set_option maxHeartbeats 4000000 in
theorem endLane_fnm (c:DConn) (id:Int) (hl:c.Lanes.length≤1000000) :
    FnM Tryz.prog 99 [.ptr 0 0 0 0,.lit (.int .i64 id)] [(0,some (.box 116 (connC c (.own 1) (.own 2)))),(1,some (.row 134 16 (c.Lanes.map encLane))),(2,some (.row 111 7 (c.Queue.map encFrame)))] 3
      (lnP c.Lanes id) [(0,some (.box 116 (connC c (.own 1) (.own 2)))),(1,some (.row 134 16 (c.Lanes.map encLane))),(2,some (.row 111 7 (c.Queue.map encFrame)))] 3:=by
  have hle:=lnIx_le c.Lanes id
  generalize hP:lnP c.Lanes id=R
  unfold lnP at hP
  unfold connC
  refine fnm_of_run (by kernel_rfl) Tryz.func99 rfl (by kernel_rfl) (by rfl) ?_
  (repeat' first|(refine go_ ?_;((repeat' first|exact True.intro|refine Two.mk ?_ ?_);all_goals intros))|fail "")
  refine r_for (fun k:Nat=>⟨[(0,.ptr 0 0 0 0),(1,.lit (.int .i64 id)),(11,.lit (.int .i64 c.Lanes.length)),(12,.lit (.int .i64 k))],[(0,some (.box 116 [.lit (.bool c.Client),.lit (.int .i64 c.Space.Next),.ro (c.Space.Sent.map encParcel),.lit (.int .i64 c.Space.Top),.ro (c.Space.Heard.map encRange),.ro (c.Space.Skip.map encI),.lit (.int .i64 c.Pace.Window),.lit (.int .i64 c.Pace.Thresh),.lit (.int .i64 c.Pace.Flying),.lit (.int .i64 c.Pace.Since),.lit (.int .i64 c.Flow.Max),.lit (.int .i64 c.Flow.Used),.lit (.int .i64 c.Credit.Max),.lit (.int .i64 c.Credit.Used),.lit (.int .i64 c.Ids),.lit (.int .i64 c.Grant),.lit (.int .i64 c.Opened),.own 1,.lit (.bool c.Owes),.own 2,.lit (.int .i64 c.Last),.lit (.int .i64 c.Resets),.lit (.bool c.Closed),.lit (.int .i64 c.Code)])),(1,some (.row 134 16 (c.Lanes.map encLane))),(2,some (.row 111 7 (c.Queue.map encFrame)))],3,Tryz.f99.ntmps⟩)
    (fun k=>k≤lnIx c.Lanes id) (fun k=>c.Lanes.length - k) 0 (Nat.zero_le _) (by (exact lessA_)) ?_
  intro k hk
  by_cases hkn:k<c.Lanes.length
  · by_cases he:(c.Lanes.getD k default).Id=id
    · have hx:=lnIx_of hkn hk he
      rw [hx,if_pos hkn] at hP
      subst hP
      (repeat' first|(refine go_ ?_;((repeat' first|exact True.intro|refine Two.mk ?_ ?_);all_goals intros))|fail "")
      all_goals first
        | (exact endmA_)
        | skip
    · have hx:=lnIx_step hkn hk he
      (repeat' first|(refine go_ ?_;((repeat' first|exact True.intro|refine Two.mk ?_ ?_);all_goals intros))|fail "")
      all_goals first
        | (refine ⟨k+1,?_,?_,?_⟩;rotate_left 2;(exact lessA_);(exact Z69_);(focus (exact hx)))
        | skip
  · have hkl:k=c.Lanes.length:=by omega
    rw [if_neg (by omega)] at hP
    subst hP
    subst hkl
    (repeat' first|(refine go_ ?_;((repeat' first|exact True.intro|refine Two.mk ?_ ?_);all_goals intros))|fail "")
    all_goals first
      | (exact endmA_)
      | skip
end Go.Proofs.YtendheafcbickaaGreat


set_option linter.unusedVariables false
set_option linter.unusedSimpArgs false
set_option linter.unusedVariables false
namespace Go.Proofs.YtendheafcbickaaGreat
set_option maxRecDepth 100000
attribute [local irreducible] Run RunL QStep GStep Fn Less PL FnM
theorem cn_room {c:DConn} (h:cnOk c):c.Lanes.length≤4∧c.Queue.length≤12∧0≤c.Opened∧c.Opened≤4611686018427387903:=by
  have:=h.1.1.1.2
  unfold cnNum at this
  omega
set_option maxHeartbeats 4000000 in
theorem opened_fn (c:DConn) (hl:c.Lanes.length≤1000000) (ho:0≤c.Opened∧c.Opened≤4611686018427387903):Fn Tryz.prog 116 [.agg (encConn c)] (.agg (encConn (cnOpened c))):=by
  unfold cnOpened
  generalize hZ:encConn { c with Lanes:=c.Lanes++[lnNew c.Opened],Opened:=c.Opened+1 }=Z
  unfold encConn at hZ
  dsimp only at hZ
  subst hZ
  refine fn_of_run (by kernel_rfl) Tryz.func116 rfl (by kernel_rfl) ?_
  (repeat' first|(refine s_app (r:=c.Lanes.map encLane) ?_ ?_ ?_ ?_ (h:=?_);(exact Z65_);(exact Z42_);(exact Z10_);(exact Z21_))|(refine s_app0R (r:=c.Lanes.map encLane) ?_ ?_ ?_ ?_ (h:=?_);(exact Z65_);(exact Z42_);(exact Z10_);(exact Z21_))|(refine p_app (r:=c.Lanes.map encLane) ?_ ?_ ?_ ?_ (h:=?_);(exact Z65_);(exact Z42_);(exact Z10_);(exact Z21_))|(refine s_app (r:=c.Lanes.map encLane++[lnRaw c.Opened]) ?_ ?_ ?_ ?_ (h:=?_);(exact Z63_);(exact Z42_);(exact Z10_);(exact Z21_))|(refine s_app0R (r:=c.Lanes.map encLane++[lnRaw c.Opened]) ?_ ?_ ?_ ?_ (h:=?_);(exact Z63_);(exact Z42_);(exact Z10_);(exact Z21_))|(refine p_app (r:=c.Lanes.map encLane++[lnRaw c.Opened]) ?_ ?_ ?_ ?_ (h:=?_);(exact Z63_);(exact Z42_);(exact Z10_);(exact Z21_))|(refine goU_ 2 ?_;((repeat' first|exact True.intro|refine Two.mk ?_ ?_);all_goals intros))|fail "")
  refine r_less (st':=⟨[(1,.ptr 0 0 0 0),(2,.ptr 1 0 0 0)],[(0,some (.box 51 [.lit (.bool c.Client),.lit (.int .i64 c.Space.Next),.ro (c.Space.Sent.map encParcel),.lit (.int .i64 c.Space.Top),.ro (c.Space.Heard.map encRange),.ro (c.Space.Skip.map encI),.lit (.int .i64 c.Pace.Window),.lit (.int .i64 c.Pace.Thresh),.lit (.int .i64 c.Pace.Flying),.lit (.int .i64 c.Pace.Since),.lit (.int .i64 c.Flow.Max),.lit (.int .i64 c.Flow.Used),.lit (.int .i64 c.Credit.Max),.lit (.int .i64 c.Credit.Used),.lit (.int .i64 c.Ids),.lit (.int .i64 c.Grant),.lit (.int .i64 c.Opened),.own 2,.lit (.bool c.Owes),.ro (c.Queue.map encFrame),.lit (.int .i64 c.Last),.lit (.int .i64 c.Resets),.lit (.bool c.Closed),.lit (.int .i64 c.Code)])),(1,some (.box 51 [.lit (.bool false),.lit (.int .i64 0),.lit (.slice none 0 0),.lit (.int .i64 0),.lit (.slice none 0 0),.lit (.slice none 0 0),.lit (.int .i64 0),.lit (.int .i64 0),.lit (.int .i64 0),.lit (.int .i64 0),.lit (.int .i64 0),.lit (.int .i64 0),.lit (.int .i64 0),.lit (.int .i64 0),.lit (.int .i64 0),.lit (.int .i64 0),.lit (.int .i64 0),.lit (.slice none 0 0),.lit (.bool false),.lit (.slice none 0 0),.lit (.int .i64 0),.lit (.int .i64 0),.lit (.bool false),.lit (.int .i64 0)])),(2,some (.row 134 16 (c.Lanes.map encLane++[lnRaw c.Opened])))],3,Tryz.f116.ntmps⟩) (by (exact lessA_)) ?_
  refine r_less (less_rowS (e:=134) (s:=16) (l:=c.Lanes.map encLane) (c:=lnRaw c.Opened) (c':=encLane (lnNew c.Opened)) (id:=2) rfl (lnRaw_wk c.Opened) rfl) ?_
  rw [show c.Lanes.map encLane++[encLane (lnNew c.Opened)]=(c.Lanes++[lnNew c.Opened]).map encLane from (by rw [List.map_append];rfl)]
  (repeat' first|(refine go_ ?_;((repeat' first|exact True.intro|refine Two.mk ?_ ?_);all_goals intros))|fail "")
  all_goals first
    | (exact endwA_)
    | skip
set_option maxHeartbeats 4000000 in
theorem connOpened_fn (c:DConn) (hu:W.wfConn c):Fn Tryz.prog 56 [.agg (encConn c)] (encCnIE (cnOpenR c)):=by
  have h1:=connFault_fn c hu
  have hll:c.Lanes.length≤1000000000:=by have:=hu.2.2.2.2.2.2.2.1;omega
  clear hu
  unfold cnOpenR encCnIE
  rcases cnFlt_cases c with ⟨h0,hok⟩ | ⟨h0,hok⟩
  · rw [h0] at h1 ⊢
    rw [if_pos rfl]
    obtain ⟨r1,r2,r3,r4⟩:=cn_room hok
    have h2:=opened_fn c (by omega) ⟨r3,r4⟩
    clear hok h0
    obtain ⟨b0,space,pace,flow,credit,ids,grant,opened,lanes,b1,queue,last,resets,b2,code⟩:=c
    dsimp only at *
    cases b2 <;> cases b0
    all_goals
      by_cases hf:opened ≥ ids∨lanes.length=4
      all_goals
        first|rw [if_pos rfl]|rw [if_neg (by decide)]
        first|rw [if_pos rfl]|rw [if_neg (by decide)]|skip
        first|rw [if_pos hf]|rw [if_neg hf]|skip
        refine fn_of_run (by kernel_rfl) Tryz.func56 rfl (by kernel_rfl) ?_
        (repeat' first|(refine s_call (h1) (h:=?_))|(refine p_call (h1) (h:=?_))|(refine s_call (h2) (h:=?_))|(refine p_call (h2) (h:=?_))|(refine go_ ?_;((repeat' first|exact True.intro|refine Two.mk ?_ ?_);all_goals intros))|fail "")
        all_goals (try dsimp only at *)
        all_goals first
          | (exact endwA_)
          | (exfalso;omega)
          | skip
  · rw [h0] at h1 ⊢
    rw [if_neg (by decide)]
    refine fn_of_run (by kernel_rfl) Tryz.func56 rfl (by kernel_rfl) ?_
    (repeat' first|(refine s_call (h1) (h:=?_))|(refine p_call (h1) (h:=?_))|(refine go_ ?_;((repeat' first|exact True.intro|refine Two.mk ?_ ?_);all_goals intros))|fail "")
    all_goals first
      | (exact endwA_)
      | skip
set_option maxHeartbeats 4000000 in
theorem connOpen_fn (c:DConn) (hw:wfConn c):Fn Tryz.prog 51 [.agg (encConn c)] (encCnIE (cnOpenR c)):=by
  have h1:=connCheck_fn c hw
  have h2:=cfresh_fnm c hw
  have hll:c.Lanes.length≤1000000000000000:=by have:=hw.2.2.2.2.2.2.2.1;omega
  clear hw
  unfold cnOpenR encCnIE
  rcases cnFlt_cases c with ⟨h0,hok⟩ | ⟨h0,hok⟩
  · rw [h0] at h1 ⊢
    rw [if_pos rfl]
    obtain ⟨r1,r2,r3,r4⟩:=cn_room hok
    have h3:=endOpen_fnm c (by omega) ⟨by omega,by omega⟩ (by omega)
    unfold connC cnOpened at h3
    unfold connC at h2
    dsimp only at h3
    clear hok h0
    obtain ⟨b0,space,pace,flow,credit,ids,grant,opened,lanes,b1,queue,last,resets,b2,code⟩:=c
    dsimp only at *
    have hin:lanes.length<((lanes++[lnNew opened]).map encLane).length:=by simp
    have hat:eAt ((lanes++[lnNew opened]).map encLane) lanes.length=encLane (lnNew opened):=by
      rw [List.map_append,eAt_append,if_neg (by simp)]
      simp [eAt]
    cases b2 <;> cases b0
    all_goals
      by_cases hf:opened ≥ ids∨lanes.length=4
      all_goals
        first|rw [if_pos rfl]|rw [if_neg (by decide)]
        first|rw [if_pos rfl]|rw [if_neg (by decide)]|skip
        first|rw [if_pos hf]|rw [if_neg hf]|skip
        refine fn_of_run (by kernel_rfl) Tryz.func51 rfl (by kernel_rfl) ?_
        (repeat' first|(refine s_call (h1) (h:=?_))|(refine p_call (h1) (h:=?_))|(refine s_callM [] (h2) (h:=?_))|(refine s_callM [4,2,3] (h3) (h:=?_))|(refine p_callM [4,2,3] (h3) (h:=?_))|(refine go_ ?_;((repeat' first|exact True.intro|refine Two.mk ?_ ?_);all_goals intros))|fail "")
        all_goals first
          | (refine s_i (hq:=q_load_one rfl rfl rfl (reads_row rfl hin rfl hat) rfl) (h:=?_);(repeat' first|(refine go_ ?_;((repeat' first|exact True.intro|refine Two.mk ?_ ?_);all_goals intros))|fail ""))
          | skip
        all_goals (try dsimp only at *)
        all_goals first
          | (exact endwA_)
          | (exfalso;omega)
          | skip
  · rw [h0] at h1 ⊢
    rw [if_neg (by decide)]
    refine fn_of_run (by kernel_rfl) Tryz.func51 rfl (by kernel_rfl) ?_
    (repeat' first|(refine s_call (h1) (h:=?_))|(refine p_call (h1) (h:=?_))|(refine go_ ?_;((repeat' first|exact True.intro|refine Two.mk ?_ ?_);all_goals intros))|fail "")
    all_goals first
      | (exact endwA_)
      | skip
end Go.Proofs.YtendheafcbickaaGreat
