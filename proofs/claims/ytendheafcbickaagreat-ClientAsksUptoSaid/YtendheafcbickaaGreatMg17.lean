/-
  SEVERAL TEXTS IN ONE: each with its own comment.
-/
import Derived.Test.YtendheafcbickaaGreatZip
import Derived.Test.YtendheafcbickaaGreatGo
import Derived.Test.YtendheafcbickaaGreatMg16
import Derived.Test.YtendheafcbickaaGreatMg05
import Derived.Test.YtendheafcbickaaGreatMg07
import Derived.Test.YtendheafcbickaaGreatMg10
import Derived.Test.YtendheafcbickaaGreatMg13
import Derived.Test.YtendheafcbickaaGreatAbsB
import Derived.Test.YtendheafcbickaaGreatRgsCut

set_option linter.unusedVariables false
set_option linter.unusedSimpArgs false
set_option linter.unusedVariables false
namespace Go.Proofs.YtendheafcbickaaGreat
set_option maxRecDepth 100000
attribute [local irreducible] Run RunL QStep GStep Fn Less PL FnM
def qSame (f x:DFrame):Prop:=x.Kind=f.Kind∧x.Id=f.Id∧f.Kind≠27
noncomputable def qIx:List DFrame→DFrame→Nat
  | [],_=>0
  | x :: r,f=>if yes (qSame f x)=true then 0 else qIx r f+1
theorem qIx_le:∀ (l:List DFrame) (f:DFrame),qIx l f≤l.length
  | [],_=>Nat.le_refl _
  | x :: r,f=>by
    unfold qIx
    split
    · simp
    · have:=qIx_le r f;simp;omega
theorem qIx_at:∀ (l:List DFrame) (f:DFrame),qIx l f<l.length→qSame f (l.getD (qIx l f) default)
  | [],_,h=>by simp [qIx] at h
  | x :: r,f,h=>by
    unfold qIx at h ⊢
    split
    · rename_i e;exact yes_t.1 e
    · rename_i e
      rw [if_neg e] at h
      have:=qIx_at r f (by simpa using h)
      simpa using this
theorem qIx_bef:∀ (l:List DFrame) (f:DFrame) (k:Nat),k<qIx l f → ¬ qSame f (l.getD k default)
  | [],_,k,h=>by simp [qIx] at h
  | x :: r,f,k,h=>by
    unfold qIx at h
    split at h
    · omega
    · rename_i e
      cases k with
      | zero=>exact fun hs=>e (yes_of (by simpa using hs))
      | succ k=>simpa using qIx_bef r f k (by omega)
theorem qIx_of {l:List DFrame} {f:DFrame} {k:Nat} (hk:k<l.length) (h1:k≤qIx l f) (h2:qSame f (l.getD k default)):qIx l f=k:=by
  rcases Nat.lt_or_ge k (qIx l f) with h|h
  · exact absurd h2 (qIx_bef l f k h)
  · omega
theorem qIx_step {l:List DFrame} {f:DFrame} {k:Nat} (hk:k<l.length) (h1:k≤qIx l f) (h2:¬ qSame f (l.getD k default)):k+1≤qIx l f:=by
  rcases Nat.lt_or_ge k (qIx l f) with h|h
  · exact h
  · have e:qIx l f=k:=by omega
    exact absurd (e ▸ qIx_at l f (by omega)) h2
noncomputable def qTell (l:List DFrame) (f:DFrame):List DFrame×Int:=if qIx l f<l.length then (l.set (qIx l f) f,0) else if l.length=12 then (l,8) else (l++[f],0)
theorem qTell_len (l:List DFrame) (f:DFrame) (h:l.length≤12):(qTell l f).1.length≤12:=by
  unfold qTell
  split
  · rw [List.length_set];exact h
  · split
    · exact h
    · rw [List.length_append,List.length_singleton];omega
theorem qTell_wf (l:List DFrame) (f:DFrame) (hl:∀ y,y ∈ l→wfFrame y) (hf:wfFrame f):∀ y,y ∈ (qTell l f).1→wfFrame y:=by
  intro y hy
  unfold qTell at hy
  split at hy
  · rcases List.mem_or_eq_of_mem_set hy with h|h
    · exact hl y h
    · exact h ▸ hf
  · split at hy
    · exact hl y hy
    · rcases List.mem_append.1 hy with h|h
      · exact hl y h
      · rw [List.mem_singleton] at h;exact h ▸ hf
def cnQ (c:DConn) (q:List DFrame):DConn:={ c with Queue:=q }
set_option maxHeartbeats 4000000 in
theorem queued_fn (c:DConn) (f:DFrame) (hl:c.Queue.length≤12):Fn Tryz.prog 146 [.agg (encConn c),.agg (encFrame f)] (.tup [.agg (encConn (cnQ c (qTell c.Queue f).1)),.lit (.int .i64 (qTell c.Queue f).2)]):=by
  have hle:=qIx_le c.Queue f
  have hat:∀ i,i<c.Queue.length→eAt (c.Queue.map encFrame) i=encFrame (c.Queue.getD i default):=fun i hi=>eAt_map encFrame hi
  generalize hR:qTell c.Queue f=R
  unfold qTell at hR
  generalize hZ:encConn (cnQ c R.1)=Z
  unfold cnQ encConn at hZ
  dsimp only at hZ
  subst hZ
  refine fn_of_run (by kernel_rfl) Tryz.func146 rfl (by kernel_rfl) ?_
  (repeat' first|(refine s_app (r:=c.Queue.map encFrame) ?_ ?_ ?_ ?_ (h:=?_);(exact Z65_);(exact Z42_);(exact Z10_);(exact Z21_))|(refine s_app0R (r:=c.Queue.map encFrame) ?_ ?_ ?_ ?_ (h:=?_);(exact Z65_);(exact Z42_);(exact Z10_);(exact Z21_))|(refine p_app (r:=c.Queue.map encFrame) ?_ ?_ ?_ ?_ (h:=?_);(exact Z65_);(exact Z42_);(exact Z10_);(exact Z21_))|(refine go_ ?_;((repeat' first|exact True.intro|refine Two.mk ?_ ?_);all_goals intros))|fail "")
  refine r_for (fun k:Nat=>⟨[(2,.ptr 0 0 0 0),(3,.ptr 1 0 0 0),(4,.ptr 2 0 0 0),(6,.own 3),(13,.own 3),(14,.lit (.int .i64 c.Queue.length)),(15,.lit (.int .i64 k))],[(0,some (.box 51 (encConn c))),(1,some (.box 111 (encFrame f))),(2,some (.box 51 [.lit (.bool false),.lit (.int .i64 0),.lit (.slice none 0 0),.lit (.int .i64 0),.lit (.slice none 0 0),.lit (.slice none 0 0),.lit (.int .i64 0),.lit (.int .i64 0),.lit (.int .i64 0),.lit (.int .i64 0),.lit (.int .i64 0),.lit (.int .i64 0),.lit (.int .i64 0),.lit (.int .i64 0),.lit (.int .i64 0),.lit (.int .i64 0),.lit (.int .i64 0),.lit (.slice none 0 0),.lit (.bool false),.lit (.slice none 0 0),.lit (.int .i64 0),.lit (.int .i64 0),.lit (.bool false),.lit (.int .i64 0)])),(3,some (.row 111 7 (c.Queue.map encFrame)))],4,Tryz.f146.ntmps⟩)
    (fun k=>k≤qIx c.Queue f) (fun k=>c.Queue.length - k) 0 (Nat.zero_le _) (by (exact lessA_)) ?_
  intro k hk
  by_cases hkn:k<c.Queue.length
  · by_cases he:qSame f (c.Queue.getD k default)
    · have hx:=qIx_of hkn hk he
      rw [hx,if_pos hkn] at hR
      subst hR
      obtain ⟨e1,e2,e3⟩:=he
      (repeat' first|(refine s_set (r:=(c.Queue.set k f).map encFrame) ?_ ?_ (h:=?_);(exact Z11_);(exact Z55_))|(refine p_set (r:=(c.Queue.set k f).map encFrame) ?_ ?_ (h:=?_);(exact Z11_);(exact Z55_))|(refine go_ ?_;((repeat' first|exact True.intro|refine Two.mk ?_ ?_);all_goals intros))|fail "")
      all_goals first
        | (exact endwA_)
        | (exfalso;omega)
        | skip
    · have hx:=qIx_step hkn hk he
      unfold qSame at he
      (repeat' first|(refine go_ ?_;((repeat' first|exact True.intro|refine Two.mk ?_ ?_);all_goals intros))|fail "")
      all_goals first
        | (refine ⟨k+1,?_,?_,?_⟩;rotate_left 2;(exact lessA_);(exact Z69_);(focus (exact hx)))
        | (exfalso;omega)
        | skip
  · have hkl:k=c.Queue.length:=by omega
    rw [if_neg (by omega)] at hR
    subst hkl
    by_cases h12:c.Queue.length=12
    · rw [if_pos h12] at hR
      subst hR
      (repeat' first|(refine go_ ?_;((repeat' first|exact True.intro|refine Two.mk ?_ ?_);all_goals intros))|fail "")
      all_goals first
        | (exact endwA_)
        | (exfalso;omega)
        | skip
    · rw [if_neg h12] at hR
      subst hR
      (repeat' first|(refine s_app (r:=(c.Queue++[f]).map encFrame) ?_ ?_ ?_ ?_ (h:=?_);(exact Z54_);(exact Z42_);(exact Z10_);(exact Z21_))|(refine s_app0R (r:=(c.Queue++[f]).map encFrame) ?_ ?_ ?_ ?_ (h:=?_);(exact Z54_);(exact Z42_);(exact Z10_);(exact Z21_))|(refine p_app (r:=(c.Queue++[f]).map encFrame) ?_ ?_ ?_ ?_ (h:=?_);(exact Z54_);(exact Z42_);(exact Z10_);(exact Z21_))|(refine go_ ?_;((repeat' first|exact True.intro|refine Two.mk ?_ ?_);all_goals intros))|fail "")
      all_goals first
        | (exact endwA_)
        | (exfalso;omega)
        | skip
set_option maxHeartbeats 4000000 in
theorem endTell_fnm (c:DConn) (f:DFrame) (hl:c.Queue.length≤12) :
    FnM Tryz.prog 134 [.ptr 0 0 0 0,.agg (encFrame f)] [(0,some (.box 116 (connC c (.own 1) (.own 2)))),(1,some (.row 134 16 (c.Lanes.map encLane))),(2,some (.row 111 7 (c.Queue.map encFrame)))] 3
      (.lit (.int .i64 (qTell c.Queue f).2)) [(0,some (.box 116 (connC c (.own 1) (.own 3)))),(1,some (.row 134 16 (c.Lanes.map encLane))),(3,some (.row 111 7 ((qTell c.Queue f).1.map encFrame)))] 4:=by
  have hle:=qIx_le c.Queue f
  have hat:∀ i,i<c.Queue.length→eAt (c.Queue.map encFrame) i=encFrame (c.Queue.getD i default):=fun i hi=>eAt_map encFrame hi
  generalize hR:qTell c.Queue f=R
  unfold qTell at hR
  unfold connC
  refine fnm_of_run (by kernel_rfl) Tryz.func134 rfl (by kernel_rfl) (by rfl) ?_
  (repeat' first|(refine go_ ?_;((repeat' first|exact True.intro|refine Two.mk ?_ ?_);all_goals intros))|fail "")
  refine r_for (fun k:Nat=>⟨[(0,.ptr 0 0 0 0),(3,.ptr 3 0 0 0),(11,.own 4),(12,.lit (.int .i64 c.Queue.length)),(13,.lit (.int .i64 k))],[(0,some (.box 116 (connC c (.own 1) (.own 4)))),(1,some (.row 134 16 (c.Lanes.map encLane))),(3,some (.box 111 (encFrame f))),(4,some (.row 111 7 (c.Queue.map encFrame)))],5,Tryz.f134.ntmps⟩)
    (fun k=>k≤qIx c.Queue f) (fun k=>c.Queue.length - k) 0 (Nat.zero_le _) (by first|exact mv_ 2|skip) ?_
  intro k hk
  unfold connC
  by_cases hkn:k<c.Queue.length
  · by_cases he:qSame f (c.Queue.getD k default)
    · have hx:=qIx_of hkn hk he
      rw [hx,if_pos hkn] at hR
      subst hR
      obtain ⟨e1,e2,e3⟩:=he
      (repeat' first|(refine s_set (r:=(c.Queue.set k f).map encFrame) ?_ ?_ (h:=?_);(exact Z11_);(exact Z55_))|(refine p_set (r:=(c.Queue.set k f).map encFrame) ?_ ?_ (h:=?_);(exact Z11_);(exact Z55_))|(refine go_ ?_;((repeat' first|exact True.intro|refine Two.mk ?_ ?_);all_goals intros))|fail "")
      all_goals first
        | (exact endmA_)
        | (exfalso;omega)
        | skip
    · have hx:=qIx_step hkn hk he
      unfold qSame at he
      (repeat' first|(refine go_ ?_;((repeat' first|exact True.intro|refine Two.mk ?_ ?_);all_goals intros))|fail "")
      all_goals first
        | (refine ⟨k+1,?_,?_,?_⟩;rotate_left 2;(exact lessA_);(exact Z69_);(focus (exact hx)))
        | (exfalso;omega)
        | skip
  · have hkl:k=c.Queue.length:=by omega
    rw [if_neg (by omega)] at hR
    subst hkl
    by_cases h12:c.Queue.length=12
    · rw [if_pos h12] at hR
      subst hR
      (repeat' first|(refine go_ ?_;((repeat' first|exact True.intro|refine Two.mk ?_ ?_);all_goals intros))|fail "")
      all_goals first
        | (exact endmA_)
        | (exfalso;omega)
        | skip
    · rw [if_neg h12] at hR
      subst hR
      (repeat' first|(refine s_app (r:=(c.Queue++[f]).map encFrame) ?_ ?_ ?_ ?_ (h:=?_);(exact Z54_);(exact Z42_);(exact Z10_);(exact Z21_))|(refine s_app0R (r:=(c.Queue++[f]).map encFrame) ?_ ?_ ?_ ?_ (h:=?_);(exact Z54_);(exact Z42_);(exact Z10_);(exact Z21_))|(refine p_app (r:=(c.Queue++[f]).map encFrame) ?_ ?_ ?_ ?_ (h:=?_);(exact Z54_);(exact Z42_);(exact Z10_);(exact Z21_))|(refine go_ ?_;((repeat' first|exact True.intro|refine Two.mk ?_ ?_);all_goals intros))|fail "")
      all_goals first
        | (exact endmA_)
        | (exfalso;omega)
        | skip
end Go.Proofs.YtendheafcbickaaGreat


set_option linter.unusedVariables false
set_option linter.unusedSimpArgs false
set_option linter.unusedVariables false
namespace Go.Proofs.YtendheafcbickaaGreat
set_option maxRecDepth 100000
attribute [local irreducible] Run RunL QStep GStep Fn Less PL FnM
def cnBegR (cl:Bool) (now:Int):DConn×Int:=if 0≤now∧now≤1099511627776 then (⟨cl,⟨0,[],-1,[],[]⟩,⟨400,0,0,-1⟩,⟨700,0⟩,⟨700,0⟩,(if cl=true then 4 else 0),(if cl=true then 0 else 4),0,[],false,[],now,0,false,0⟩,0) else (default,6)
def encCnE (r:DConn×Int):V:=.tup [.agg (encConn r.1),.lit (.int .i64 r.2)]
end Go.Proofs.YtendheafcbickaaGreat


set_option linter.unusedVariables false
set_option linter.unusedSimpArgs false
set_option linter.unusedVariables false
namespace Go.Proofs.YtendheafcbickaaGreat
set_option maxRecDepth 100000
attribute [local irreducible] Run RunL QStep GStep Fn Less PL FnM
def sndZ:DSender:=⟨[],false,0,0,[],[],false,false⟩
set_option maxHeartbeats 1000000 in
theorem senderFresh_fn (s:DSender) (hw:wfSender s):Fn Tryz.prog 205 [.agg (encSender s)] (.agg (encSender s)):=by
  have hl:=hw.1
  have hl2:=hw.2.2.2.1
  have hl3:=hw.2.2.2.2.2.1
  refine fn_of_run (by kernel_rfl) Tryz.func205 rfl (by kernel_rfl) ?_
  (repeat' first|(refine s_app (r:=s.Data.map encB) ?_ ?_ ?_ ?_ (h:=?_);(exact Z65_);(exact Z42_);(exact Z10_);(exact Z21_))|(refine s_app0R (r:=s.Data.map encB) ?_ ?_ ?_ ?_ (h:=?_);(exact Z65_);(exact Z42_);(exact Z10_);(exact Z21_))|(refine p_app (r:=s.Data.map encB) ?_ ?_ ?_ ?_ (h:=?_);(exact Z65_);(exact Z42_);(exact Z10_);(exact Z21_))|(refine s_app (r:=s.Lost.map encRange) ?_ ?_ ?_ ?_ (h:=?_);(exact Z65_);(exact Z42_);(exact Z10_);(exact Z21_))|(refine s_app0R (r:=s.Lost.map encRange) ?_ ?_ ?_ ?_ (h:=?_);(exact Z65_);(exact Z42_);(exact Z10_);(exact Z21_))|(refine p_app (r:=s.Lost.map encRange) ?_ ?_ ?_ ?_ (h:=?_);(exact Z65_);(exact Z42_);(exact Z10_);(exact Z21_))|(refine s_app (r:=s.Acked.map encRange) ?_ ?_ ?_ ?_ (h:=?_);(exact Z65_);(exact Z42_);(exact Z10_);(exact Z21_))|(refine s_app0R (r:=s.Acked.map encRange) ?_ ?_ ?_ ?_ (h:=?_);(exact Z65_);(exact Z42_);(exact Z10_);(exact Z21_))|(refine p_app (r:=s.Acked.map encRange) ?_ ?_ ?_ ?_ (h:=?_);(exact Z65_);(exact Z42_);(exact Z10_);(exact Z21_))|(refine go_ ?_;((repeat' first|exact True.intro|refine Two.mk ?_ ?_);all_goals intros))|fail "")
  all_goals first
    | (exact endwA_)
    | skip
end Go.Proofs.YtendheafcbickaaGreat


set_option linter.unusedVariables false
set_option linter.unusedSimpArgs false
set_option linter.unusedVariables false
namespace Go.Proofs.YtendheafcbickaaGreat
set_option maxRecDepth 100000
attribute [local irreducible] Run RunL QStep GStep Fn Less PL FnM
def partOk (s:DSender) (off n:Int) (fin:Bool):Prop:=(0≤off∧off≤s.Next∧0≤n∧n≤s.Next - off)∧(fin=true→s.Fin=true∧s.Next=s.Data.length∧off+n=s.Next)
noncomputable def partFlt (s:DSender) (off n:Int) (fin:Bool):Int:=if sndFlt s≠0 then sndFlt s else if yes (partOk s off n fin)=true then 0 else 13
theorem partFlt_cases (s:DSender) (off n:Int) (fin:Bool):(sndFlt s=9∧partFlt s off n fin=9)∨(sndFlt s=0∧sndOk s∧partOk s off n fin∧partFlt s off n fin=0)∨(sndFlt s=0∧sndOk s ∧ ¬ partOk s off n fin∧partFlt s off n fin=13):=by
  unfold partFlt
  rcases sndFlt_cases s with ⟨h0,hok⟩ | ⟨h0,hbad⟩
  · by_cases h:partOk s off n fin
    · exact .inr (.inl ⟨h0,hok,h,by rw [if_neg (by omega),if_pos (yes_of h)]⟩)
    · exact .inr (.inr ⟨h0,hok,h,by rw [if_neg (by omega),if_neg (by rw [no_of h];decide)]⟩)
  · exact .inl ⟨h0,by rw [if_pos (by omega),h0]⟩
def rZ:DRange:=⟨0,0⟩
set_option maxHeartbeats 2000000 in
theorem endLost_fn (s:DSender):Fn Tryz.prog 308 [.agg (encSender s)] (.lit (.bool (s.Fin && decide (s.Next=s.Data.length)))):=by
  obtain ⟨data,f0,next,mx,lost,acked,en,ov⟩:=s
  dsimp only [encSender]
  cases f0
  all_goals simp only [Bool.false_and,Bool.true_and]
  all_goals refine fn_of_run (by kernel_rfl) Tryz.func308 rfl (by kernel_rfl) ?_
  all_goals (repeat' first|(refine go_ ?_;((repeat' first|exact True.intro|refine Two.mk ?_ ?_);all_goals intros))|fail "")
  all_goals first
    | (exact endwA_)
    | skip
set_option maxHeartbeats 8000000 in
theorem part_fn (s:DSender) (off n:Int) (fin:Bool) (hw:wfSender s) (ho:I64 off) (hn:I64 n):Fn Tryz.prog 284 [.agg (encSender s),.lit (.int .i64 off),.lit (.int .i64 n),.lit (.bool fin)]
    (.tup [.agg (encRange (if partFlt s off n fin=0 then ⟨off,off+n - 1⟩ else rZ)),.lit (.int .i64 (partFlt s off n fin))]):=by
  have h1:=senderCheck_fn s hw
  have h2:=endLost_fn s
  clear hw
  unfold I64 at ho hn
  rcases partFlt_cases s off n fin with ⟨h0,e⟩ | ⟨h0,hok,hp,e⟩ | ⟨h0,hok,hp,e⟩
  · rw [e,if_neg (by decide)]
    rw [h0] at h1
    clear h2
    refine fn_of_run (by kernel_rfl) Tryz.func284 rfl (by kernel_rfl) ?_
    (repeat' first|(refine s_call (h1) (h:=?_))|(refine p_call (h1) (h:=?_))|(refine go_ ?_;((repeat' first|exact True.intro|refine Two.mk ?_ ?_);all_goals intros))|fail "")
    all_goals first
      | (exact endwA_)
      | skip
  · rw [e,if_pos rfl]
    rw [h0] at h1
    obtain ⟨⟨f1,f2,f3,f4,f5,_,_⟩,hfl,hend⟩:=(sndHead_iff s).1 hok.1.1.1
    clear h0 e hok
    unfold partOk at hp
    obtain ⟨data,f0,next,mx,lost,acked,en,ov⟩:=s
    dsimp only [encSender] at *
    cases f0 <;> cases en <;> cases ov <;> cases fin
    all_goals simp only [sndFl,Bool.false_and,Bool.true_and,Bool.and_false,Bool.and_true,Bool.or_false,Bool.or_true,Bool.false_or,Bool.true_or,Bool.not_false,Bool.not_true,true_implies,false_implies,Bool.false_eq_true,and_true,true_and,false_and,reduceCtorEq] at hfl hend hp h2
    all_goals refine fn_of_run (by kernel_rfl) Tryz.func284 rfl (by kernel_rfl) ?_
    all_goals (repeat' first|(refine s_call (h1) (h:=?_))|(refine p_call (h1) (h:=?_))|(refine s_dec (h2) (ht:=?_) (hff:=?_) <;> intro _ <;> try (exfalso;omega))|(refine p_dec (h2) (ht:=?_) (hff:=?_) <;> intro _ <;> try (exfalso;omega))|(refine s_call (h2) (h:=?_))|(refine p_call (h2) (h:=?_))|(refine go_ ?_;((repeat' first|exact True.intro|refine Two.mk ?_ ?_);all_goals intros))|fail "")
    all_goals first
      | (exact endwA_)
      | (exfalso;first|exact hp.2|omega)
      | skip
  · rw [e,if_neg (by decide)]
    rw [h0] at h1
    obtain ⟨⟨f1,f2,f3,f4,f5,_,_⟩,hfl,hend⟩:=(sndHead_iff s).1 hok.1.1.1
    clear h0 e hok
    unfold partOk at hp
    obtain ⟨data,f0,next,mx,lost,acked,en,ov⟩:=s
    dsimp only [encSender] at *
    cases f0 <;> cases en <;> cases ov <;> cases fin
    all_goals simp only [sndFl,Bool.false_and,Bool.true_and,Bool.and_false,Bool.and_true,Bool.or_false,Bool.or_true,Bool.false_or,Bool.true_or,Bool.not_false,Bool.not_true,true_implies,false_implies,Bool.false_eq_true,and_true,true_and,false_and,reduceCtorEq,and_false,not_false_eq_true] at hfl hend hp h2
    all_goals refine fn_of_run (by kernel_rfl) Tryz.func284 rfl (by kernel_rfl) ?_
    all_goals (repeat' first|(refine s_call (h1) (h:=?_))|(refine p_call (h1) (h:=?_))|(refine s_dec (h2) (ht:=?_) (hff:=?_) <;> intro _ <;> try (exfalso;omega))|(refine p_dec (h2) (ht:=?_) (hff:=?_) <;> intro _ <;> try (exfalso;omega))|(refine s_call (h2) (h:=?_))|(refine p_call (h2) (h:=?_))|(refine go_ ?_;((repeat' first|exact True.intro|refine Two.mk ?_ ?_);all_goals intros))|fail "")
    all_goals first
      | (exact endwA_)
      | (exfalso;omega)
      | skip
set_option maxHeartbeats 8000000 in
theorem partFault_fn (s:DSender) (off n:Int) (fin:Bool) (hw:U.wfSender s) (ho:I64 off) (hn:I64 n):Fn Tryz.prog 297 [.agg (encSender s),.lit (.int .i64 off),.lit (.int .i64 n),.lit (.bool fin)]
    (.lit (.int .i64 (partFlt s off n fin))):=by
  have h1:=senderFault_fn s hw
  clear hw
  unfold I64 at ho hn
  rcases partFlt_cases s off n fin with ⟨h0,e⟩ | ⟨h0,hok,hp,e⟩ | ⟨h0,hok,hp,e⟩
  · rw [e]
    rw [h0] at h1
    refine fn_of_run (by kernel_rfl) Tryz.func297 rfl (by kernel_rfl) ?_
    (repeat' first|(refine s_call (h1) (h:=?_))|(refine p_call (h1) (h:=?_))|(refine go_ ?_;((repeat' first|exact True.intro|refine Two.mk ?_ ?_);all_goals intros))|fail "")
    all_goals first
      | (exact endwA_)
      | skip
  · rw [e]
    rw [h0] at h1
    obtain ⟨⟨f1,f2,f3,f4,f5,_,_⟩,hfl,hend⟩:=(sndHead_iff s).1 hok.1.1.1
    clear h0 e hok hfl hend
    unfold partOk at hp
    obtain ⟨data,f0,next,mx,lost,acked,en,ov⟩:=s
    dsimp only [encSender] at *
    cases f0 <;> cases fin
    all_goals simp only [true_implies,false_implies,Bool.false_eq_true,and_true,true_and,false_and,reduceCtorEq] at hp
    all_goals refine fn_of_run (by kernel_rfl) Tryz.func297 rfl (by kernel_rfl) ?_
    all_goals (repeat' first|(refine s_call (h1) (h:=?_))|(refine p_call (h1) (h:=?_))|(refine s_dec (upTo_fn _ _) (ht:=?_) (hff:=?_) <;> intro _ <;> try (exfalso;omega))|(refine p_dec (upTo_fn _ _) (ht:=?_) (hff:=?_) <;> intro _ <;> try (exfalso;omega))|(refine go_ ?_;((repeat' first|exact True.intro|refine Two.mk ?_ ?_);all_goals intros))|fail "")
    all_goals first
      | (exact endwA_)
      | (exfalso;first|exact hp.2|omega)
      | skip
  · rw [e]
    rw [h0] at h1
    obtain ⟨⟨f1,f2,f3,f4,f5,_,_⟩,hfl,hend⟩:=(sndHead_iff s).1 hok.1.1.1
    clear h0 e hok hfl hend
    unfold partOk at hp
    obtain ⟨data,f0,next,mx,lost,acked,en,ov⟩:=s
    dsimp only [encSender] at *
    cases f0 <;> cases fin
    all_goals simp only [true_implies,false_implies,Bool.false_eq_true,and_true,true_and,false_and,reduceCtorEq,and_false,not_false_eq_true] at hp
    all_goals refine fn_of_run (by kernel_rfl) Tryz.func297 rfl (by kernel_rfl) ?_
    all_goals (repeat' first|(refine s_call (h1) (h:=?_))|(refine p_call (h1) (h:=?_))|(refine s_dec (upTo_fn _ _) (ht:=?_) (hff:=?_) <;> intro _ <;> try (exfalso;omega))|(refine p_dec (upTo_fn _ _) (ht:=?_) (hff:=?_) <;> intro _ <;> try (exfalso;omega))|(refine go_ ?_;((repeat' first|exact True.intro|refine Two.mk ?_ ?_);all_goals intros))|fail "")
    all_goals first
      | (exact endwA_)
      | (exfalso;omega)
      | skip
end Go.Proofs.YtendheafcbickaaGreat


set_option linter.unusedVariables false
set_option linter.unusedSimpArgs false
set_option linter.unusedVariables false
namespace Go.Proofs.YtendheafcbickaaGreat
set_option maxRecDepth 100000
attribute [local irreducible] Run RunL QStep GStep Fn Less PL
theorem wf_good {x:DRange} (h:rGood x):wfRange x:=by unfold rGood at h;unfold wfRange I64;omega
theorem wf_set {l:List DRange} {a:Int} (h:rSet a l):∀ y,y ∈ l→wfRange y:=fun y hy=>wf_good (rSet_good h y hy).1
def hol (l:List DRange) (r:DRange) (k:Nat):List DRange:=(l.take k).foldl rCut [r]
theorem hol_snoc {l:List DRange} {k:Nat} (h:k<l.length) (r:DRange):hol l r (k+1)=rCut (hol l r k) (l.getD k default):=by
  unfold hol;rw [take_snoc h,List.foldl_append];rfl
theorem hol_set {l:List DRange} {r:DRange} (hs:rSet (-2) l) (hr:rGood r):∀ k,k≤l.length→rSet (-2) (hol l r k)∧(hol l r k).length≤k+1
  | 0,_=>⟨⟨hr,by unfold rGood at hr;omega,trivial⟩,by simp [hol]⟩
  | k+1,hk=>by
    obtain ⟨h1,h2⟩:=hol_set hs hr k (by omega)
    have hg:=(rSet_good hs _ (getD_mem (show k<l.length by omega))).1
    rw [hol_snoc (by omega)]
    exact ⟨rCut_set hg h1,by have:=rCut_len hg h1;omega⟩
def rHoles (l:List DRange) (r:DRange):List DRange×Int:=if rgFlt l r≠0 then ([],rgFlt l r) else (hol l r l.length,0)
theorem rCutR_ok {l:List DRange} {r:DRange} (hs:rSet (-2) l) (hr:rGood r):rCutR l r=(rCut l r,0):=by
  have h:rgFlt l r=0:=by unfold rgFlt rFlt;rw [if_pos hs,if_neg (by omega),if_pos hr]
  unfold rCutR;rw [h,if_neg (by omega)]
def hStep (r:DRange) (s:Int×List DRange) (x:DRange):Int×List DRange:=
  if x.Hi<r.Lo∨r.Hi<x.Lo then s else (x.Hi+1,s.2++(if s.1<x.Lo then [⟨s.1,x.Lo - 1⟩] else []))
def hSt (l:List DRange) (r:DRange) (k:Nat):Int×List DRange:=(l.take k).foldl (hStep r) (r.Lo,[])
def hEnd (r:DRange) (s:Int×List DRange):List DRange:=s.2++(if s.1≤r.Hi then [⟨s.1,r.Hi⟩] else [])
end Go.Proofs.YtendheafcbickaaGreat


set_option linter.unusedVariables false
set_option linter.unusedSimpArgs false
set_option linter.unusedVariables false
namespace Go.Proofs.YtendheafcbickaaGreat
set_option maxRecDepth 100000
attribute [local irreducible] Run RunL QStep GStep Fn Less PL
theorem holes_fn' (l:List DRange) (r:DRange) (hw:∀ y,y ∈ l→wfRange y) (hl:l.length * 16≤140737488351232):Fn Tryz.prog 285 [.ro (l.map encRange),.agg (encRange r)] (.tup [.ro ((rHoles l r).1.map encRange),.lit (.int .i64 (rHoles l r).2)]):=by
  have h1:=rangesFaultR_fn l r hw (by omega)
  unfold rHoles
  by_cases h0:rgFlt l r=0
  · obtain ⟨hs,hr⟩:=rgFlt_ok h0
    rw [h0] at h1 ⊢
    rw [if_neg (by omega)]
    refine fn_of_run (by kernel_rfl) Tryz.func285 rfl (by kernel_rfl) ?_
    (repeat' first|(refine s_call (h1) (h:=?_))|(refine p_call (h1) (h:=?_))|(refine go_ ?_;((repeat' first|exact True.intro|refine Two.mk ?_ ?_);all_goals intros))|fail "")
    refine r_for (fun k:Nat=>⟨[(3,.ptr 0 0 0 0),(18,.ro (l.map encRange)),(19,.lit (.int .i64 l.length)),(20,.lit (.int .i64 k)),(7,.ro ((hol l r k).map encRange))],[(0,some (.box 146 (encRange r)))],1,Tryz.f285.ntmps⟩)
      (fun k=>k≤l.length) (fun k=>l.length - k) 0 (Nat.zero_le _) less_to ?_
    intro k hk
    by_cases hkn:k<l.length
    · obtain ⟨hx,_⟩:=rSet_good hs _ (getD_mem hkn)
      obtain ⟨hh1,hh2⟩:=hol_set (r:=r) hs hr k hk
      have hc:=cut_fn (hol l r k) (l.getD k default) (wf_set hh1) (by omega)
      rw [rCutR_ok hh1 hx,← hol_snoc hkn] at hc
      dsimp only at hc
      (repeat' first|(refine s_call (hc) (h:=?_))|(refine p_call (hc) (h:=?_))|(refine go_ ?_;((repeat' first|exact True.intro|refine Two.mk ?_ ?_);all_goals intros))|fail "")
      all_goals (refine ⟨k+1,?_,?_,?_⟩;rotate_left 2;(exact lessA_);(exact Z69_);(exact Z67_))
    · have hkl:k=l.length:=by omega
      subst hkl
      (repeat' first|(refine go_ ?_;((repeat' first|exact True.intro|refine Two.mk ?_ ?_);all_goals intros))|fail "")
      all_goals exact ends_ (hr:=rfl)
  · rw [if_pos h0]
    generalize rgFlt l r=e at *
    refine fn_of_run (by kernel_rfl) Tryz.func285 rfl (by kernel_rfl) ?_
    (repeat' first|(refine s_call (h1) (h:=?_))|(refine p_call (h1) (h:=?_))|(refine go_ ?_;((repeat' first|exact True.intro|refine Two.mk ?_ ?_);all_goals intros))|fail "")
    all_goals (exact endwA_)
end Go.Proofs.YtendheafcbickaaGreat
