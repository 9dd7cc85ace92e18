/-
  SEVERAL TEXTS IN ONE: each with its own comment.
-/
import Derived.Test.YtendheafcbickaaGreatZip
import Derived.Test.YtendheafcbickaaGreatGo
import Derived.Test.YtendheafcbickaaGreatSortJ
import Derived.Test.YtendheafcbickaaGreatAbsB
import Derived.Test.YtendheafcbickaaGreatMg17
import Derived.Test.YtendheafcbickaaGreatMg18
import Derived.Test.YtendheafcbickaaGreatMg11
import Derived.Test.YtendheafcbickaaGreatRgsCut
import Derived.Test.YtendheafcbickaaGreatMg08
import Derived.Test.YtendheafcbickaaGreatMg07
import Derived.Test.YtendheafcbickaaGreatProg

set_option linter.unusedVariables false
set_option linter.unusedSimpArgs false
set_option linter.unusedVariables false
namespace Go.Proofs.YtendheafcbickaaGreat
set_option maxRecDepth 100000
attribute [local irreducible] Run RunL QStep GStep Fn Less PL FnM
def jStep (out:List DRange) (r:DRange):List DRange:=
  if out.length=0 then [r] else if r.Lo≤(out.getD (out.length - 1) default).Hi+1 then out.set (out.length - 1) ⟨(out.getD (out.length - 1) default).Lo,max (out.getD (out.length - 1) default).Hi r.Hi⟩ else out++[r]
def jOut (m:List DRange):List DRange:=m.foldl jStep []
theorem jStep_snoc (d:List DRange) (c r:DRange):jStep (d++[c]) r=if r.Lo≤c.Hi+1 then d++[⟨c.Lo,max c.Hi r.Hi⟩] else d++[c]++[r]:=by
  have h1:(d++[c]).getD ((d++[c]).length - 1) default=c:=by simp [List.getD_eq_getElem?_getD]
  unfold jStep
  rw [if_neg (by simp),h1]
  split
  · congr 1
    simp [List.set_append]
  · rfl
theorem foldl_jn:∀ (m d:List DRange) (c:DRange),m.foldl jStep (d++[c])=d++jn c m
  | [],d,c=>rfl
  | r :: m,d,c=>by
    rw [List.foldl_cons,jStep_snoc]
    unfold jn
    split
    · exact foldl_jn m d _
    · rw [foldl_jn m (d++[c]) r,List.append_assoc];rfl
theorem jOut_eq (m:List DRange):jOut m=jnd m:=by
  cases m with
  | nil=>rfl
  | cons x m=>
    have:=foldl_jn m [] x
    exact this
theorem jOut_snoc {m:List DRange} {k:Nat} (h:k<m.length):jOut (m.take (k+1))=jStep (jOut (m.take k)) (m.getD k default):=by
  unfold jOut
  rw [take_snoc h,List.foldl_append]
  rfl
theorem jStep_good {out:List DRange} {r:DRange} (ho:∀ x ∈ out,rGood x) (hr:rGood r):∀ x ∈ jStep out r,rGood x:=by
  intro x hx
  unfold jStep at hx
  split at hx
  · rw [List.mem_singleton] at hx;subst hx;exact hr
  · split at hx
    · have h1:(out.getD (out.length - 1) default) ∈ out:=getD_mem (by omega)
      rcases List.mem_or_eq_of_mem_set hx with h|h
      · exact ho x h
      · have:=ho _ h1
        subst h
        unfold rGood at this hr ⊢
        dsimp only
        omega
    · rcases List.mem_append.1 hx with h|h
      · exact ho x h
      · rw [List.mem_singleton] at h;subst h;exact hr
theorem jStep_len (out:List DRange) (r:DRange):(jStep out r).length≤out.length+1:=by
  unfold jStep
  split
  · simp
  · split <;> simp
theorem foldl_good:∀ {m out:List DRange},(∀ x ∈ out,rGood x)→(∀ x ∈ m,rGood x) → ∀ x ∈ m.foldl jStep out,rGood x
  | [],out,ho,_=>ho
  | r :: m,out,ho,hm=>foldl_good (m:=m) (jStep_good ho (hm r (List.mem_cons_self ..))) (fun x hx=>hm x (List.mem_cons_of_mem _ hx))
theorem foldl_len:∀ (m out:List DRange),(m.foldl jStep out).length≤out.length+m.length
  | [],out=>by simp
  | r :: m,out=>by
    have h1:=foldl_len m (jStep out r)
    have h2:=jStep_len out r
    rw [List.foldl_cons,List.length_cons]
    omega
theorem jOut_good {m:List DRange} (hm:∀ x ∈ m,rGood x):∀ x ∈ jOut m,rGood x:=foldl_good (fun x hx=>by cases hx) hm
theorem jOut_len (m:List DRange):(jOut m).length≤m.length:=by
  have:=foldl_len m []
  simpa [jOut] using this
theorem set_hi (out:List DRange) (i:Nat) (hi:i<out.length) (v:Int):(out.map encRange).set i (setAt 1 [.lit (.int .i64 v)] (eAt (out.map encRange) i))=(out.set i ⟨(out.getD i default).Lo,v⟩).map encRange:=by
  rw [eAt_enc _ _ hi,List.map_set]
  rfl
set_option maxHeartbeats 2000000 in
theorem joined_fn (l R:List DRange) (hg:∀ x ∈ l,rGood x) (hl:l.length * 16≤140737488355328) (hR:rSet (-2) R) (hin:∀ n,inL R n ↔ inL l n):Fn Tryz.prog 257 [.ro (l.map encRange)] (.ro (R.map encRange)):=by
  have hp:∀ x ∈ l,0≤x.Lo:=fun x hx=>(hg x hx).1
  refine fn_of_run (by kernel_rfl) Tryz.func257 rfl (by kernel_rfl) ?_
  (repeat' first|(refine s_app (r:=l.map encRange) ?_ ?_ ?_ ?_ (h:=?_);(exact Z65_);(exact Z42_);(exact Z10_);(exact Z21_))|(refine s_app0R (r:=l.map encRange) ?_ ?_ ?_ ?_ (h:=?_);(exact Z65_);(exact Z42_);(exact Z10_);(exact Z21_))|(refine p_app (r:=l.map encRange) ?_ ?_ ?_ ?_ (h:=?_);(exact Z65_);(exact Z42_);(exact Z10_);(exact Z21_))|(refine go_ ?_;((repeat' first|exact True.intro|refine Two.mk ?_ ?_);all_goals intros))|fail "")
  refine s_sortR l hp (by omega) (h:=?_)
  intro m hm hml hs
  have hmR:jOut m=R:=by rw [jOut_eq];exact jnd_eq hm hg hs hR hin
  have hmg:∀ x ∈ m,rGood x:=fun x hx=>hg x ((hm x).1 hx)
  clear hm hs hR hin hp hg
  (repeat' first|(refine go_ ?_;((repeat' first|exact True.intro|refine Two.mk ?_ ?_);all_goals intros))|fail "")
  refine r_for (fun k:Nat=>⟨[(14,.own 2),(15,.lit (.int .i64 m.length)),(16,.lit (.int .i64 k)),(3,.own 3)],[(2,some (.row 146 2 (m.map encRange))),(3,some (.row 146 2 ((jOut (m.take k)).map encRange)))],4,Tryz.f257.ntmps⟩)
    (fun k=>k≤m.length) (fun k=>m.length - k) 0 (Nat.zero_le _) ((less_own (n:=3) (t:=3) 146 2 rfl rfl rfl).trans less_to) ?_
  intro k hk
  by_cases hkn:k<m.length
  · have hx:=hmg _ (getD_mem hkn)
    have hgo:=jOut_good (m:=m.take k) (fun x hx=>hmg x (List.mem_of_mem_take hx))
    have hlo:=jOut_len (m.take k)
    rw [List.length_take] at hlo
    have hsn:=jOut_snoc hkn
    generalize jOut (m.take k)=out at hgo hlo hsn ⊢
    unfold jStep at hsn
    unfold rGood at hx
    by_cases c0:out.length=0
    · rw [if_pos c0] at hsn
      obtain rfl:=List.length_eq_zero_iff.1 c0
      (repeat' first|(refine s_app (r:=(jOut (m.take (k+1))).map encRange) ?_ ?_ ?_ ?_ (h:=?_);(focus (first|(rw [hsn];rfl)|exact Z1_));(exact Z42_);(exact Z10_);(exact Z21_))|(refine s_app0R (r:=(jOut (m.take (k+1))).map encRange) ?_ ?_ ?_ ?_ (h:=?_);(focus (first|(rw [hsn];rfl)|exact Z1_));(exact Z42_);(exact Z10_);(exact Z21_))|(refine p_app (r:=(jOut (m.take (k+1))).map encRange) ?_ ?_ ?_ ?_ (h:=?_);(focus (first|(rw [hsn];rfl)|exact Z1_));(exact Z42_);(exact Z10_);(exact Z21_))|(refine go_ ?_;((repeat' first|exact True.intro|refine Two.mk ?_ ?_);all_goals intros))|fail "")
      all_goals (refine ⟨k+1,?_,?_,?_⟩;rotate_left 2;(exact lessA_);(exact Z69_);(exact Z67_))
    · rw [if_neg c0] at hsn
      have hc:=hgo _ (getD_mem (show out.length - 1<out.length by omega))
      unfold rGood at hc
      by_cases c1:(m.getD k default).Lo≤(out.getD (out.length - 1) default).Hi+1
      · rw [if_pos c1] at hsn
        (repeat' first|(refine s_set (r:=(jOut (m.take (k+1))).map encRange) ?_ ?_ (h:=?_);(exact Z11_);(focus ((rw [hsn];exact set_hi out (out.length - 1) (by omega) _))))|(refine p_set (r:=(jOut (m.take (k+1))).map encRange) ?_ ?_ (h:=?_);(exact Z11_);(focus ((rw [hsn];exact set_hi out (out.length - 1) (by omega) _))))|(refine go_ ?_;((repeat' first|exact True.intro|refine Two.mk ?_ ?_);all_goals intros))|fail "")
        all_goals (refine ⟨k+1,?_,?_,?_⟩;rotate_left 2;(exact lessA_);(exact Z69_);(exact Z67_))
      · rw [if_neg c1] at hsn
        (repeat' first|(refine s_app (r:=(jOut (m.take (k+1))).map encRange) ?_ ?_ ?_ ?_ (h:=?_);(exact Z61_);(exact Z42_);(exact Z10_);(exact Z21_))|(refine s_app0R (r:=(jOut (m.take (k+1))).map encRange) ?_ ?_ ?_ ?_ (h:=?_);(exact Z61_);(exact Z42_);(exact Z10_);(exact Z21_))|(refine p_app (r:=(jOut (m.take (k+1))).map encRange) ?_ ?_ ?_ ?_ (h:=?_);(exact Z61_);(exact Z42_);(exact Z10_);(exact Z21_))|(refine go_ ?_;((repeat' first|exact True.intro|refine Two.mk ?_ ?_);all_goals intros))|fail "")
        all_goals (refine ⟨k+1,?_,?_,?_⟩;rotate_left 2;(exact lessA_);(exact Z69_);(exact Z67_))
  · (repeat' first|(refine go_ ?_;((repeat' first|exact True.intro|refine Two.mk ?_ ?_);all_goals intros))|fail "")
    all_goals (refine ends_ (hr:=?_);rw [List.take_of_length_le (by omega),hmR])
end Go.Proofs.YtendheafcbickaaGreat


set_option linter.unusedVariables false
set_option linter.unusedSimpArgs false
set_option linter.unusedVariables false
namespace Go.Proofs.YtendheafcbickaaGreat
set_option maxRecDepth 100000
attribute [local irreducible] Run RunL QStep GStep Fn Less PL FnM
def heardS (s:DSender) (off n:Int) (fin:Bool):DSender:=
  { s with Lost:=if 0<n then rCut s.Lost ⟨off,off+n - 1⟩ else s.Lost,Acked:=if 0<n then rAdd s.Acked ⟨off,off+n - 1⟩ else s.Acked,Ended:=s.Ended && !fin,Over:=s.Over || fin }
noncomputable def heardR (s:DSender) (off n:Int) (fin:Bool):DSender×Int:=if partFlt s off n fin≠0 then (sndZ,partFlt s off n fin) else (heardS s off n fin,0)
def lostS (s:DSender) (off n:Int) (fin:Bool):DSender:=
  { s with Lost:=if 0<n then (hol s.Acked ⟨off,off+n - 1⟩ s.Acked.length).foldl rAdd s.Lost else s.Lost,Ended:=s.Ended && !fin }
noncomputable def lostR (s:DSender) (off n:Int) (fin:Bool):DSender×Int:=if partFlt s off n fin≠0 then (sndZ,partFlt s off n fin) else (lostS s off n fin,0)
def encSE (r:DSender×Int):V:=.tup [.agg (encSender r.1),.lit (.int .i64 r.2)]
theorem rAddR_ok {l:List DRange} {r:DRange} (hs:rSet (-2) l) (hr:rGood r):rAddR l r=(rAdd l r,0):=by
  have h:rgFlt l r=0:=by unfold rgFlt rFlt;rw [if_pos hs,if_neg (by omega),if_pos hr]
  unfold rAddR;rw [h,if_neg (by omega)]
theorem rHoles_ok {l:List DRange} {r:DRange} (hs:rSet (-2) l) (hr:rGood r):rHoles l r=(hol l r l.length,0):=by
  have h:rgFlt l r=0:=by unfold rgFlt rFlt;rw [if_pos hs,if_neg (by omega),if_pos hr]
  unfold rHoles;rw [h,if_neg (by omega)]
theorem foldAdd:∀ (H:List DRange) {L:List DRange},rSet (-2) L→(∀ x ∈ H,rGood x)→rSet (-2) (H.foldl rAdd L)∧(∀ n,inL (H.foldl rAdd L) n ↔ inL (L++H) n)∧(H.foldl rAdd L).length≤L.length+H.length
  | [],L,hL,_=>⟨hL,fun n=>by rw [List.append_nil];rfl,by simp⟩
  | x :: H,L,hL,hH=>by
    have hx:=hH x (List.mem_cons_self ..)
    have hx':=hx
    unfold rGood at hx'
    obtain ⟨h1,h2,h3⟩:=foldAdd H (rAdd_set hL hx (by omega)) (fun y hy=>hH y (List.mem_cons_of_mem _ hy))
    have h4:=rAdd_len L x
    rw [List.foldl_cons]
    refine ⟨h1,fun n=>?_,by rw [List.length_cons];omega⟩
    rw [h2,inL_app,rAdd_in hx'.2.1 (fun y hy=>by have:=(rSet_good hL y hy).1;unfold rGood at this;exact this.2.1),inL_app,inL_cons,or_assoc]
theorem fold_snoc {H L:List DRange} {k:Nat} (h:k<H.length):(H.take (k+1)).foldl rAdd L=rAdd ((H.take k).foldl rAdd L) (H.getD k default):=by
  rw [take_snoc h,List.foldl_append];rfl
theorem snd_facts {s:DSender} (h:sndOk s) {off n:Int} {fin:Bool} (hp:partOk s off n fin):rSet (-2) s.Lost∧rSet (-2) s.Acked∧(0≤off∧0≤n∧off+n≤600)∧(0<n→rGood ⟨off,off+n - 1⟩):=by
  have hh:=(sndHead_iff s).1 h.1.1.1
  obtain ⟨⟨f1,f2,f3,f4,f5,f6,f7⟩,_,_⟩:=hh
  obtain ⟨⟨p1,p2,p3,p4⟩,_⟩:=hp
  exact ⟨rFlt_set f6,rFlt_set f7,by omega,fun hn=>by unfold rGood;dsimp only;omega⟩
end Go.Proofs.YtendheafcbickaaGreat


set_option linter.unusedVariables false
set_option linter.unusedSimpArgs false
set_option linter.unusedVariables false
namespace Go.Proofs.YtendheafcbickaaGreat
set_option maxRecDepth 100000
attribute [local irreducible] Run RunL QStep GStep Fn Less PL FnM
set_option maxHeartbeats 2000000 in
theorem sameSender_refl (a:DSender) (ha:a.Lost.length * 16≤140737488351232) (hb:a.Acked.length * 16≤140737488351232):Fn Tryz.prog 75 [.agg (encSender a),.agg (encSender a)] (.lit (.bool true)):=by
  have h1:=sameRanges_fn a.Lost a.Lost (by omega) (by omega)
  have h2:=sameRanges_fn a.Acked a.Acked (by omega) (by omega)
  have h3:=sameBytes_fn a.Data a.Data
  rw [yes_of rfl] at h1 h2 h3
  obtain ⟨data,f0,next,mx,lost,acked,en,ov⟩:=a
  dsimp only [encSender] at *
  cases f0 <;> cases en <;> cases ov
  all_goals refine fn_of_run (by kernel_rfl) Tryz.func75 rfl (by kernel_rfl) ?_
  all_goals (repeat' first|(refine s_call (h1) (h:=?_))|(refine p_call (h1) (h:=?_))|(refine s_call (h2) (h:=?_))|(refine p_call (h2) (h:=?_))|(refine s_call (h3) (h:=?_))|(refine p_call (h3) (h:=?_))|(refine go_ ?_;((repeat' first|exact True.intro|refine Two.mk ?_ ?_);all_goals intros))|fail "")
  all_goals first
    | exact ends_ (hr:=rfl)
    | skip
end Go.Proofs.YtendheafcbickaaGreat


set_option linter.unusedVariables false
set_option linter.unusedSimpArgs false
set_option linter.unusedVariables false
namespace Go.Proofs.YtendheafcbickaaGreat
set_option maxRecDepth 100000
attribute [local irreducible] Run RunL QStep GStep Fn Less PL FnM
theorem part_ok {s:DSender} {off n:Int} {fin:Bool} (hp0:partFlt s off n fin=0):sndOk s∧partOk s off n fin:=by
  rcases partFlt_cases s off n fin with ⟨h0,e⟩ | ⟨_,h,h',_⟩ | ⟨h0,hok,hp,e⟩
  · omega
  · exact ⟨h,h'⟩
  · omega
set_option maxHeartbeats 8000000 in
theorem lose_fn (s:DSender) (off n:Int) (fin:Bool) (hw:wfSender s) (hu:s.Lost.length * 16≤4294967296∧s.Acked.length * 16≤4294967296) (ho:I64 off) (hn:I64 n):Fn Tryz.prog 232 [.agg (encSender s),.lit (.int .i64 off),.lit (.int .i64 n),.lit (.bool fin)] (encSE (lostR s off n fin)):=by
  have h1:=part_fn s off n fin hw ho hn
  have h2:=senderFresh_fn s hw
  have h3:=fun r=>holes_fn' s.Acked r hw.2.2.2.2.2.2 (by omega)
  obtain ⟨w1,w2⟩:=hu
  clear hw
  unfold I64 at ho hn
  unfold lostR encSE
  by_cases hp0:partFlt s off n fin=0
  · obtain ⟨hok,hp⟩:=part_ok hp0
    rw [hp0,if_pos rfl] at h1
    rw [hp0,if_neg (by decide)]
    obtain ⟨q1,q2,q3,q4⟩:=snd_facts hok hp
    clear hp0 hok hp
    unfold lostS
    by_cases hn0:0<n
    · rw [if_pos hn0]
      have q4:=q4 hn0
      have h3:=h3 ⟨off,off+n - 1⟩
      rw [rHoles_ok q2 q4] at h3
      obtain ⟨g1,g2⟩:=hol_set q2 q4 s.Acked.length (Nat.le_refl _)
      have g3:=fun x hx=>(rSet_good g1 x hx).1
      generalize hol s.Acked ⟨off,off+n - 1⟩ s.Acked.length=H at *
      obtain ⟨data,f0,next,mx,lost,acked,en,ov⟩:=s
      dsimp only [encSender,encRange] at *
      clear q2 q4 g1
      refine fn_of_run (by kernel_rfl) Tryz.func232 rfl (by kernel_rfl) ?_
      (repeat' first|(refine s_call (h1) (h:=?_))|(refine p_call (h1) (h:=?_))|(refine s_call (h2) (h:=?_))|(refine p_call (h2) (h:=?_))|(refine s_call (h3) (h:=?_))|(refine p_call (h3) (h:=?_))|(refine go_ ?_;((repeat' first|exact True.intro|refine Two.mk ?_ ?_);all_goals intros))|fail "")
      refine r_for (fun k:Nat=>⟨[(3,.lit (.bool fin)),(4,.ptr 0 0 0 0),(8,.ptr 1 0 0 0),(39,.ro (H.map encRange)),(40,.lit (.int .i64 H.length)),(41,.lit (.int .i64 k))],[(0,some (.box 132 [.ro (data.map encB),.lit (.bool f0),.lit (.int .i64 next),.lit (.int .i64 mx),.ro (((H.take k).foldl rAdd lost).map encRange),.ro (acked.map encRange),.lit (.bool en),.lit (.bool ov)])),(1,some (.box 132 [.lit (.slice none 0 0),.lit (.bool false),.lit (.int .i64 0),.lit (.int .i64 0),.lit (.slice none 0 0),.lit (.slice none 0 0),.lit (.bool false),.lit (.bool false)]))],2,Tryz.f232.ntmps⟩)
        (fun k=>k≤H.length) (fun k=>H.length - k) 0 (Nat.zero_le _) less_to ?_
      intro k hk
      by_cases hkn:k<H.length
      · have hx:=g3 _ (getD_mem hkn)
        obtain ⟨e1,_,e3⟩:=foldAdd (H.take k) q1 (fun x hx=>g3 x (List.mem_of_mem_take hx))
        have hA:=add_fn ((H.take k).foldl rAdd lost) (H.getD k default) (wf_set e1) (by rw [List.length_take] at e3;omega)
        rw [rAddR_ok e1 hx,← fold_snoc hkn] at hA
        dsimp only [encRange] at hA
        clear h1 h2 h3 e1 e3
        (repeat' first|(refine s_call (hA) (h:=?_))|(refine p_call (hA) (h:=?_))|(refine go_ ?_;((repeat' first|exact True.intro|refine Two.mk ?_ ?_);all_goals intros))|fail "")
        all_goals first
          | (refine ⟨k+1,?_,?_,?_⟩;rotate_left 2;(exact lessA_);(exact Z69_);(exact Z67_))
          | skip
      · have hkl:k=H.length:=by omega
        subst hkl
        rw [List.take_length]
        clear h1 h2 h3
        cases fin <;> cases en
        all_goals (repeat' first|(refine go_ ?_;((repeat' first|exact True.intro|refine Two.mk ?_ ?_);all_goals intros))|fail "")
        all_goals first
          | (exact endwA_)
          | skip
    · rw [if_neg hn0]
      clear h3 q4
      obtain ⟨data,f0,next,mx,lost,acked,en,ov⟩:=s
      dsimp only [encSender,encRange] at *
      clear q1 q2
      cases fin <;> cases en
      all_goals refine fn_of_run (by kernel_rfl) Tryz.func232 rfl (by kernel_rfl) ?_
      all_goals (repeat' first|(refine s_call (h1) (h:=?_))|(refine p_call (h1) (h:=?_))|(refine s_call (h2) (h:=?_))|(refine p_call (h2) (h:=?_))|(refine go_ ?_;((repeat' first|exact True.intro|refine Two.mk ?_ ?_);all_goals intros))|fail "")
      all_goals first
        | (exact endwA_)
        | skip
  · rw [if_neg hp0] at h1
    rw [if_pos hp0]
    clear h2 h3
    generalize partFlt s off n fin=e at *
    refine fn_of_run (by kernel_rfl) Tryz.func232 rfl (by kernel_rfl) ?_
    (repeat' first|(refine s_call (h1) (h:=?_))|(refine p_call (h1) (h:=?_))|(refine go_ ?_;((repeat' first|exact True.intro|refine Two.mk ?_ ?_);all_goals intros))|fail "")
    all_goals first
      | (exact endwA_)
      | skip
set_option maxHeartbeats 8000000 in
theorem loseRef_fn (s:DSender) (off n:Int) (fin:Bool) (hw:U.wfSender s) (ho:I64 off) (hn:I64 n):Fn Tryz.prog 286 [.agg (encSender s),.lit (.int .i64 off),.lit (.int .i64 n),.lit (.bool fin)] (encSE (lostR s off n fin)):=by
  have h1:=partFault_fn s off n fin hw ho hn
  have w1:=hw.2.2.2.1
  have w2:=hw.2.2.2.2.2.1
  clear hw
  unfold I64 at ho hn
  unfold lostR encSE
  by_cases hp0:partFlt s off n fin=0
  · obtain ⟨hok,hp⟩:=part_ok hp0
    rw [hp0] at h1
    rw [hp0,if_neg (by decide)]
    obtain ⟨q1,q2,q3,q4⟩:=snd_facts hok hp
    clear hp0 hok hp
    unfold lostS
    by_cases hn0:0<n
    · rw [if_pos hn0]
      have q4:=q4 hn0
      obtain ⟨data,f0,next,mx,lost,acked,en,ov⟩:=s
      dsimp only [encSender] at *
      refine fn_of_run (by kernel_rfl) Tryz.func286 rfl (by kernel_rfl) ?_
      (repeat' first|(refine s_call (h1) (h:=?_))|(refine p_call (h1) (h:=?_))|(refine go_ ?_;((repeat' first|exact True.intro|refine Two.mk ?_ ?_);all_goals intros))|fail "")
      refine r_for (fun k:Nat=>⟨[(3,.lit (.bool fin)),(4,.ptr 0 0 0 0),(8,.ptr 1 0 0 0),(11,.ro ((hol acked ⟨off,off+n - 1⟩ k).map encRange)),(33,.ro (acked.map encRange)),(34,.lit (.int .i64 acked.length)),(35,.lit (.int .i64 k))],[(0,some (.box 132 [.ro (data.map encB),.lit (.bool f0),.lit (.int .i64 next),.lit (.int .i64 mx),.ro (lost.map encRange),.ro (acked.map encRange),.lit (.bool en),.lit (.bool ov)])),(1,some (.box 132 [.lit (.slice none 0 0),.lit (.bool false),.lit (.int .i64 0),.lit (.int .i64 0),.lit (.slice none 0 0),.lit (.slice none 0 0),.lit (.bool false),.lit (.bool false)]))],2,Tryz.f286.ntmps⟩)
        (fun k=>k≤acked.length) (fun k=>acked.length - k) 0 (Nat.zero_le _) less_to ?_
      intro k hk
      by_cases hkn:k<acked.length
      · obtain ⟨hx,_⟩:=rSet_good q2 _ (getD_mem hkn)
        obtain ⟨e1,e2⟩:=hol_set q2 q4 k hk
        have hA:=without_fn (hol acked ⟨off,off+n - 1⟩ k) (acked.getD k default) e1 hx (by omega)
        rw [← hol_snoc hkn] at hA
        dsimp only [encRange] at hA
        clear h1 e1 e2
        (repeat' first|(refine s_call (hA) (h:=?_))|(refine p_call (hA) (h:=?_))|(refine go_ ?_;((repeat' first|exact True.intro|refine Two.mk ?_ ?_);all_goals intros))|fail "")
        all_goals first
          | (refine ⟨k+1,?_,?_,?_⟩;rotate_left 2;(exact lessA_);(exact Z69_);(exact Z67_))
          | skip
      · have hkl:k=acked.length:=by omega
        subst hkl
        obtain ⟨g1,g2⟩:=hol_set q2 q4 acked.length (Nat.le_refl _)
        have g3:=fun x hx=>(rSet_good g1 x hx).1
        obtain ⟨e1,e2,e3⟩:=foldAdd (hol acked ⟨off,off+n - 1⟩ acked.length) q1 g3
        have hJ:=joined_fn (lost++hol acked ⟨off,off+n - 1⟩ acked.length) _ (fun x hx=>by
          rcases List.mem_append.1 hx with h|h
          · exact (rSet_good q1 x h).1
          · exact g3 x h) (by rw [List.length_append];omega) e1 e2
        generalize hol acked ⟨off,off+n - 1⟩ acked.length=H at *
        generalize H.foldl rAdd lost=R at *
        clear h1 e1 e2 e3 q2 q4 q1 g1 g3
        cases fin
        · rw [Bool.not_false,Bool.and_true]
          (repeat' first|(refine s_call (hJ) (h:=?_))|(refine p_call (hJ) (h:=?_))|(refine s_app (r:=lost.map encRange) ?_ ?_ ?_ ?_ (h:=?_);(exact Z65_);(exact Z42_);(exact Z10_);(exact Z21_))|(refine s_app0R (r:=lost.map encRange) ?_ ?_ ?_ ?_ (h:=?_);(exact Z65_);(exact Z42_);(exact Z10_);(exact Z21_))|(refine p_app (r:=lost.map encRange) ?_ ?_ ?_ ?_ (h:=?_);(exact Z65_);(exact Z42_);(exact Z10_);(exact Z21_))|(refine s_appro (r:=(lost++H).map encRange) ?_ ?_ ?_ ?_ (h:=?_);(exact Z65_);(exact Z42_);(exact Z10_);(exact Z21_))|(refine p_appro (r:=(lost++H).map encRange) ?_ ?_ ?_ ?_ (h:=?_);(exact Z65_);(exact Z42_);(exact Z10_);(exact Z21_))|(refine go_ ?_;((repeat' first|exact True.intro|refine Two.mk ?_ ?_);all_goals intros))|fail "")
          all_goals first
            | (exact endwA_)
            | skip
        · rw [Bool.not_true,Bool.and_false]
          (repeat' first|(refine s_call (hJ) (h:=?_))|(refine p_call (hJ) (h:=?_))|(refine s_app (r:=lost.map encRange) ?_ ?_ ?_ ?_ (h:=?_);(exact Z65_);(exact Z42_);(exact Z10_);(exact Z21_))|(refine s_app0R (r:=lost.map encRange) ?_ ?_ ?_ ?_ (h:=?_);(exact Z65_);(exact Z42_);(exact Z10_);(exact Z21_))|(refine p_app (r:=lost.map encRange) ?_ ?_ ?_ ?_ (h:=?_);(exact Z65_);(exact Z42_);(exact Z10_);(exact Z21_))|(refine s_appro (r:=(lost++H).map encRange) ?_ ?_ ?_ ?_ (h:=?_);(exact Z65_);(exact Z42_);(exact Z10_);(exact Z21_))|(refine p_appro (r:=(lost++H).map encRange) ?_ ?_ ?_ ?_ (h:=?_);(exact Z65_);(exact Z42_);(exact Z10_);(exact Z21_))|(refine go_ ?_;((repeat' first|exact True.intro|refine Two.mk ?_ ?_);all_goals intros))|fail "")
          all_goals first
            | (exact endwA_)
            | skip
    · rw [if_neg hn0]
      clear q4
      obtain ⟨data,f0,next,mx,lost,acked,en,ov⟩:=s
      dsimp only [encSender,encRange] at *
      clear q1 q2
      cases fin
      · rw [Bool.not_false,Bool.and_true]
        refine fn_of_run (by kernel_rfl) Tryz.func286 rfl (by kernel_rfl) ?_
        (repeat' first|(refine s_call (h1) (h:=?_))|(refine p_call (h1) (h:=?_))|(refine go_ ?_;((repeat' first|exact True.intro|refine Two.mk ?_ ?_);all_goals intros))|fail "")
        all_goals first
          | (exact endwA_)
          | skip
      · rw [Bool.not_true,Bool.and_false]
        refine fn_of_run (by kernel_rfl) Tryz.func286 rfl (by kernel_rfl) ?_
        (repeat' first|(refine s_call (h1) (h:=?_))|(refine p_call (h1) (h:=?_))|(refine go_ ?_;((repeat' first|exact True.intro|refine Two.mk ?_ ?_);all_goals intros))|fail "")
        all_goals first
          | (exact endwA_)
          | skip
  · rw [if_pos hp0]
    generalize partFlt s off n fin=e at *
    refine fn_of_run (by kernel_rfl) Tryz.func286 rfl (by kernel_rfl) ?_
    (repeat' first|(refine s_call (h1) (h:=?_))|(refine p_call (h1) (h:=?_))|(refine go_ ?_;((repeat' first|exact True.intro|refine Two.mk ?_ ?_);all_goals intros))|fail "")
    all_goals first
      | (exact endwA_)
      | skip
end Go.Proofs.YtendheafcbickaaGreat


set_option linter.unusedVariables false
set_option linter.unusedSimpArgs false
set_option linter.unusedVariables false
namespace Go.Proofs.YtendheafcbickaaGreat
set_option maxRecDepth 100000
attribute [local irreducible] Run RunL QStep GStep Fn Less PL FnM
set_option maxHeartbeats 1000000 in
theorem frames_fn (l:List DFrame) (hw:∀ y,y ∈ l→wfFrame y) (hl:l.length * 88≤140737488351232):Fn Tryz.prog 239 [.ro (l.map encFrame)] (.ro (l.map encFrame)):=by
  refine fn_of_run (by kernel_rfl) Tryz.func239 rfl (by kernel_rfl) ?_
  (repeat' first|(refine go_ ?_;((repeat' first|exact True.intro|refine Two.mk ?_ ?_);all_goals intros))|fail "")
  refine r_for (fun k:Nat=>⟨[(6,.ro (l.map encFrame)),(7,.lit (.int .i64 l.length)),(8,.lit (.int .i64 k)),(3,.own 0)],[(0,some (.row 111 7 ((l.take k).map encFrame)))],1,Tryz.f239.ntmps⟩)
    (fun k=>k≤l.length) (fun k=>l.length - k) 0 (Nat.zero_le _) ((less_own (n:=0) (t:=3) 111 7 rfl rfl rfl).trans less_to) ?_
  intro k hk
  by_cases hkn:k<l.length
  · have hf:=hw _ (getD_mem hkn)
    have hr:=hf.2.2.2.2.1
    have hd:=hf.2.2.2.2.2.2
    (repeat' first|(refine s_app (r:=(l.take (k+1)).map encFrame) ?_ ?_ ?_ ?_ (h:=?_);(exact Z65_);(exact Z42_);(exact Z10_);(exact Z21_))|(refine s_app0R (r:=(l.take (k+1)).map encFrame) ?_ ?_ ?_ ?_ (h:=?_);(exact Z65_);(exact Z42_);(exact Z10_);(exact Z21_))|(refine p_app (r:=(l.take (k+1)).map encFrame) ?_ ?_ ?_ ?_ (h:=?_);(exact Z65_);(exact Z42_);(exact Z10_);(exact Z21_))|(refine s_appro (r:=(l.getD k default).Ranges.map encRange) ?_ ?_ ?_ ?_ (h:=?_);(exact Z65_);(exact Z42_);(exact Z10_);(exact Z21_))|(refine p_appro (r:=(l.getD k default).Ranges.map encRange) ?_ ?_ ?_ ?_ (h:=?_);(exact Z65_);(exact Z42_);(exact Z10_);(exact Z21_))|(refine s_appro (r:=(l.getD k default).Data.map encB) ?_ ?_ ?_ ?_ (h:=?_);(exact Z65_);(exact Z42_);(exact Z10_);(exact Z21_))|(refine p_appro (r:=(l.getD k default).Data.map encB) ?_ ?_ ?_ ?_ (h:=?_);(exact Z65_);(exact Z42_);(exact Z10_);(exact Z21_))|(refine go_ ?_;((repeat' first|exact True.intro|refine Two.mk ?_ ?_);all_goals intros))|fail "")
    all_goals (refine ⟨k+1,?_,?_,?_⟩;rotate_left 2;(exact lessA_);(exact Z69_);(exact Z67_))
  · (repeat' first|(refine go_ ?_;((repeat' first|exact True.intro|refine Two.mk ?_ ?_);all_goals intros))|fail "")
    all_goals (refine ends_ (hr:=?_);rw [List.take_of_length_le (by omega)])
set_option maxHeartbeats 1000000 in
theorem fresh_fnm (s:DSpace) (hw:wfSpace s) :
    FnM Tryz.prog 127 [.agg (encSpace s)] [] 0 (.agg [.lit (.int .i64 s.Next),.own 0,.lit (.int .i64 s.Top),.own 1,.own 2]) [(0,some (.row 198 4 (s.Sent.map encParcel))),(1,some (.row 146 2 (s.Heard.map encRange))),(2,some (.row 3 1 (s.Skip.map encI)))] 3:=by
  have hl:=hw.2.1
  have hl2:=hw.2.2.2.2.1
  have hl3:=hw.2.2.2.2.2.2.1
  refine fnm_of_run (by kernel_rfl) Tryz.func127 rfl (by kernel_rfl) (by rfl) ?_
  (repeat' first|(refine go_ ?_;((repeat' first|exact True.intro|refine Two.mk ?_ ?_);all_goals intros))|fail "")
  refine r_for (fun k:Nat=>⟨[(1,.ptr 0 0 0 0),(2,.ptr 1 0 0 0),(7,.ro (s.Sent.map encParcel)),(8,.lit (.int .i64 s.Sent.length)),(9,.lit (.int .i64 k)),(3,.own 2)],[(0,some (.box 43 (encSpace s))),(1,some (.box 43 [.lit (.int .i64 0),.lit (.slice none 0 0),.lit (.int .i64 0),.lit (.slice none 0 0),.lit (.slice none 0 0)])),(2,some (.row 198 4 ((s.Sent.take k).map encParcel)))],3,Tryz.f127.ntmps⟩)
    (fun k=>k≤s.Sent.length) (fun k=>s.Sent.length - k) 0 (Nat.zero_le _) ((less_own (n:=2) (t:=3) 198 4 rfl rfl rfl).trans less_to) ?_
  intro k hk
  by_cases hkn:k<s.Sent.length
  · have hf:=hw.2.2.1 _ (getD_mem hkn)
    have h1:=frames_fn (s.Sent.getD k default).Frames hf.2.2.2.2 hf.2.2.2.1
    (repeat' first|(refine s_call (h1) (h:=?_))|(refine p_call (h1) (h:=?_))|(refine s_app (r:=(s.Sent.take (k+1)).map encParcel) ?_ ?_ ?_ ?_ (h:=?_);(exact Z65_);(exact Z42_);(exact Z10_);(exact Z21_))|(refine s_app0R (r:=(s.Sent.take (k+1)).map encParcel) ?_ ?_ ?_ ?_ (h:=?_);(exact Z65_);(exact Z42_);(exact Z10_);(exact Z21_))|(refine p_app (r:=(s.Sent.take (k+1)).map encParcel) ?_ ?_ ?_ ?_ (h:=?_);(exact Z65_);(exact Z42_);(exact Z10_);(exact Z21_))|(refine go_ ?_;((repeat' first|exact True.intro|refine Two.mk ?_ ?_);all_goals intros))|fail "")
    all_goals (refine ⟨k+1,?_,?_,?_⟩;rotate_left 2;(exact lessA_);(exact Z69_);(exact Z67_))
  · have hkl:k=s.Sent.length:=by omega
    subst hkl
    rw [List.take_length]
    (repeat' first|(refine s_app (r:=s.Heard.map encRange) ?_ ?_ ?_ ?_ (h:=?_);(exact Z65_);(exact Z42_);(exact Z10_);(exact Z21_))|(refine s_app0R (r:=s.Heard.map encRange) ?_ ?_ ?_ ?_ (h:=?_);(exact Z65_);(exact Z42_);(exact Z10_);(exact Z21_))|(refine p_app (r:=s.Heard.map encRange) ?_ ?_ ?_ ?_ (h:=?_);(exact Z65_);(exact Z42_);(exact Z10_);(exact Z21_))|(refine s_app (r:=s.Skip.map encI) ?_ ?_ ?_ ?_ (h:=?_);(exact Z65_);(exact Z42_);(exact Z10_);(exact Z21_))|(refine s_app0R (r:=s.Skip.map encI) ?_ ?_ ?_ ?_ (h:=?_);(exact Z65_);(exact Z42_);(exact Z10_);(exact Z21_))|(refine p_app (r:=s.Skip.map encI) ?_ ?_ ?_ ?_ (h:=?_);(exact Z65_);(exact Z42_);(exact Z10_);(exact Z21_))|(refine go_ ?_;((repeat' first|exact True.intro|refine Two.mk ?_ ?_);all_goals intros))|fail "")
    all_goals (exact endmA_)
end Go.Proofs.YtendheafcbickaaGreat
