
import Derived.Test.YtendheafcbickaaGreatHGo
import Derived.Test.YtendheafcbickaaGreatHMg34
import Derived.Test.YtendheafcbickaaGreatHFlB
import Derived.Test.YtendheafcbickaaGreatHMg21
import Derived.Test.YtendheafcbickaaGreatHMg20
set_option linter.unusedVariables false
set_option linter.unusedSimpArgs false
set_option linter.unusedVariables false
namespace Go.Proofs.YtendheafcbickaaGreat
set_option maxRecDepth 100000
def ND (s:DSender):Prop:=0≤s.Next∧s.Next≤s.Data.length∧s.Data.length≤600
theorem pc_U {s:DSender} {room credit:Int} (hw:U.wfSender s) (he:(pcR s room credit).2.2.2=0):U.wfSender (pcR s room credit).1∧ND (pcR s room credit).1:=by
  unfold pcR at *
  rcases sndFlt_cases s with ⟨h0,hok⟩ | ⟨h0,hbad⟩
  · rw [if_neg (by omega)] at he ⊢
    by_cases hq:0≤room∧room≤120∧0≤credit
    · rw [if_neg (fun h=>h hq)] at he ⊢
      obtain ⟨⟨f1,f2,f3,f4,f5⟩,f6,f7,g1,g2,g3⟩:=pc_facts hok hq
      have hset:=fun h:0<pcN s room credit=>rCut_set (l:=s.Lost) (a:=-2) (r:=⟨pcLo s room,pcLo s room+pcN s room credit - 1⟩) (by unfold rGood;dsimp only;omega) f6
      have hlen:=fun h:0<pcN s room credit=>rCut_len600 (r:=⟨pcLo s room,pcLo s room+pcN s room credit - 1⟩) f6 (by unfold rGood;dsimp only;omega) (Nat.le_refl s.Lost.length)
      have hl6:s.Lost.length≤1000:=by
        have q1:=rFlt_set hok.1.1.1.2.2.2.2.2.1
        have q2:=rSet_few q1 ((lastLow_iff q1).1 hok.1.1.2) (by omega)
        omega
      generalize pcFin s (pcLo s room) (pcN s room credit)=fin at *
      generalize pcN s room credit=n at *
      generalize pcLo s room=lo at *
      unfold pcDo
      split
      · exact ⟨hw,f1,f2,f5⟩
      · refine ⟨⟨hw.1,by unfold I64;dsimp only;omega,by unfold I64;dsimp only;omega,?_,?_,hw.2.2.2.2.2.1,hw.2.2.2.2.2.2⟩,by unfold ND;dsimp only;omega⟩
        · dsimp only
          split
          · have:=hlen (by assumption);omega
          · omega
        · dsimp only
          split
          · intro y hy
            have hg:=(rSet_good (hset (by assumption)) y hy).1
            unfold rGood at hg
            unfold U.wfRange I64;omega
          · exact hw.2.2.2.2.1
    · rw [if_pos hq] at he;cases he
  · rw [if_pos (by omega)] at he;dsimp only at he;omega
theorem asc_ids {l m:List DLane} {op:Int} (hl:m.length=l.length) (hid:∀ i,i<l.length→(m.getD i default).Id=(l.getD i default).Id) (h:∀ i,i<l.length→lnPrev l i<(l.getD i default).Id∧(l.getD i default).Id<op):∀ i,i<m.length→lnPrev m i<(m.getD i default).Id∧(m.getD i default).Id<op:=by
  intro i hi
  rw [hl] at hi
  rw [hid i hi]
  have h1:=h i hi
  refine ⟨?_,h1.2⟩
  have h2:=h1.1
  unfold lnPrev at h2 ⊢
  split
  · rename_i h0;rw [if_pos h0] at h2;exact h2
  · rename_i h0;rw [if_neg h0] at h2;rw [hid _ (by omega)];exact h2
theorem packN_I {cr:Int} {B:Nat} {l:List DLane} (hu:∀ y ∈ l,LI B y):∀ (n k:Nat) (s:List DLane×Int×List DFrame),n+k=l.length→s.1.length=l.length→(∀ y ∈ s.1,LI B y)→(∀ i,i<l.length→(s.1.getD i default).Id=(l.getD i default).Id) →
    (∀ y ∈ (packN cr l n k s).1,LI B y)∧(∀ i,i<l.length→((packN cr l n k s).1.getD i default).Id=(l.getD i default).Id)
  | 0,k,s,_,h1,h2,h3=>⟨h2,h3⟩
  | n+1,k,s,hk,h1,h2,h3=>by
    unfold packN
    split
    · exact ⟨h2,h3⟩
    · split
      · rename_i hg
        obtain ⟨u1,u2,u3,u4,u5,u6,u7⟩:=hu _ (getD_mem (show k<l.length by omega))
        obtain ⟨p1,p2⟩:=pc_U u5 hg.1
        refine packN_I hu n (k+1) _ (by omega) (by dsimp only;rw [List.length_set];exact h1) (fun y hy=>?_) (fun i hi=>?_)
        · rcases List.mem_or_eq_of_mem_set hy with hy|hy
          · exact h2 y hy
          · subst hy;exact ⟨u1,u2,u3,u4,p1,p2,u7⟩
        · dsimp only
          rw [List.getD_eq_getElem?_getD,List.getElem?_set]
          by_cases e:k=i
          · subst e
            rw [if_pos rfl,if_pos (by omega)];rfl
          · rw [if_neg e,← List.getD_eq_getElem?_getD]
            exact h3 i hi
      · exact packN_I hu n (k+1) s (by omega) h1 h2 h3
theorem spQuiet_U (s:DSpace) (hw:U.wfSpace s):U.wfSpace (spQuiet s).1:=by
  have h:=(spQuiet_wf s (U.wf_leSpace s hw)).1
  unfold spQuiet at *
  split
  · unfold U.wfSpace I64 spZero;simp
  · rename_i h1
    rw [if_neg h1] at h
    split
    · unfold U.wfSpace I64 spZero;simp
    · rename_i h2
      rw [if_neg h2] at h
      exact ⟨h,hw.2⟩
theorem U_fr {f:DFrame} (h:wfFrame f) (h0:frFlt f=0):U.wfFrame f:=by
  have:=frFlt_small h0
  obtain ⟨a1,a2,a3,a4,a5,a6,a7⟩:=h
  exact ⟨a1,a2,a3,a4,by omega,a6,by omega⟩
theorem spSend_U (s:DSpace) (now size:Int) (l:List DFrame) (hw:U.wfSpace s) (hl:l.length≤12) (hf:okFs l):U.wfSpace (spSend s now size l).1:=by
  have hz:U.wfSpace ⟨0,[],0,[],[]⟩:=by unfold U.wfSpace I64;simp
  unfold spSend
  rcases spFlt_cases s with ⟨h0,ho⟩ | ⟨h0,ho⟩
  · rw [h0,if_neg (by omega)]
    split
    · exact hz
    · rename_i c1
      split
      · exact hz
      · have hh:=ho.1.1
        unfold spHead at hh
        unfold sdBad at c1
        refine ⟨by unfold I64;dsimp only;omega,by dsimp only;rw [List.length_append];simp;omega,fun y hy=>?_,hw.2.2.2⟩
        rcases List.mem_append.1 hy with h|h
        · exact hw.2.2.1 y h
        · rw [List.mem_singleton.1 h]
          exact ⟨by unfold I64;dsimp only;omega,by unfold I64;dsimp only;omega,by unfold I64;dsimp only;omega,by dsimp only;omega,fun f hf'=>U_fr (hf f hf').1 (hf f hf').2⟩
  · rw [h0,if_pos (by omega)];exact hz
theorem spSend_n (s:DSpace) (now size:Int) (l:List DFrame):I64 (spSend s now size l).2.1:=by
  unfold spSend
  rcases spFlt_cases s with ⟨h0,ho⟩ | ⟨h0,ho⟩
  · rw [h0,if_neg (by omega)]
    split
    · unfold I64;dsimp only;omega
    · split
      · unfold I64;dsimp only;omega
      · have hh:=ho.1.1
        unfold spHead at hh
        unfold I64;dsimp only;omega
  · rw [h0,if_pos (by omega)];unfold I64;dsimp only;omega
theorem spQuiet_n (s:DSpace):I64 (spQuiet s).2.1:=by
  unfold spQuiet
  rcases spFlt_cases s with ⟨h0,ho⟩ | ⟨h0,ho⟩
  · rw [h0,if_neg (by omega)]
    have hh:=ho.1.1
    unfold spHead at hh
    split <;> (unfold I64;dsimp only;omega)
  · rw [h0,if_pos (by omega)];unfold I64;dsimp only;omega
structure FlO (B:Nat) (r:DConn×Int×List DFrame×Int):Prop where
  j:HJ r.1
  l:HL B r.1
  n:I64 r.2.1
  f:∀ f ∈ r.2.2.1,wfFrame f
  k:r.2.2.1.length≤12
theorem quiet_I {B:Nat} {c:DConn} {l:List DFrame} (hj:HJ c) (hl:HL B c) (hf:okFs l) (h12:l.length≤12) (h0:(quietR c l).2.2.2=0):FlO B (quietR c l):=by
  unfold quietR at *
  split
  · exact ⟨hj,hl,by unfold I64;dsimp only;omega,(fun f hf=>by cases hf),by simp⟩
  · rename_i h1
    rw [if_neg h1] at h0
    split
    · refine ⟨⟨hj.op,hj.gr,hj.id,hj.fl,hj.cr,spQuiet_U _ hj.sp,hj.pc,hj.ls,hj.rs,hj.cd⟩,⟨hl.l4,hl.asc,hl.ln,?_,?_⟩,spQuiet_n _,fun f hf'=>(hf f hf').1,h12⟩
      · dsimp only;split
        · simp
        · exact hl.q12
      · dsimp only;split
        · intro y hy;cases hy
        · exact hl.qw
    · rename_i h2
      rw [if_neg h2] at h0
      exact absurd h0 h2
theorem ackLs_ok {c:DConn} (hw:wfConn c) (hok:cnOk c):okFs (ackL c)∧(ackL c).length≤1:=by
  have hsp:spFlt c.Space=0:=hok.1.1.1.1.1
  have hspo:spHead c.Space:=by
    rcases spFlt_cases c.Space with ⟨_,h⟩ | ⟨h,_⟩
    · exact h.1.1
    · omega
  unfold spHead at hspo
  unfold ackL
  split
  · rename_i h
    have:=ack_ok (l:=c.Space.Heard) hw.1.2.2.2.2.2.1 hspo.2.2.2.2.2.1 h.2 hspo.2.2.2.2.2.2.1
    exact ⟨fun f hf=>by rw [List.mem_singleton] at hf;exact hf ▸ this,by simp⟩
  · exact ⟨(fun f hf=>by cases hf),by simp⟩
theorem flR_I {B:Nat} {c:DConn} {now:Int} (hj:HJ c) (hl:HL B c) (hB:B≤16777216) (h0:(flR c now).2.2.2=0):FlO B (flR c now):=by
  have hu:=HI_wf hj hl hB
  have hw:=W.wf_leConn c hu
  unfold flR at *
  rcases cnFlt_cases c with ⟨hc,hok⟩ | ⟨hc,hok⟩
  · rw [if_pos hc] at h0 ⊢
    split
    · rename_i hn
      rw [if_pos hn] at h0
      have hqok:okFs c.Queue:=fun f hf=>⟨hw.2.2.2.2.2.2.2.2.2.2.1 f hf,(allTo_memA (Q:=fun x=>frFlt x=0)).1 hok.1.2 f hf⟩
      have h12:=hl.q12
      split
      · rename_i hcl
        rw [if_pos hcl] at h0
        exact quiet_I hj hl hqok h12 h0
      · rename_i hcl
        rw [if_neg hcl] at h0
        have hAok:=ackLs_ok hw hok
        have hlu:∀ y,y ∈ c.Lanes→W.wfLane y∧0≤y.Id∧y.Id≤4611686018427387903:=fun y hy=>⟨hu.2.2.2.2.2.2.2.2.1 y hy,by
          obtain ⟨i,hi,rfl⟩:=List.getElem_of_mem hy
          have hln:=hok.1.1.2
          have h1:=(ln_low hln i hi)
          have h2:=(hln i hi).2.1
          have hcn:=hok.1.1.1.2
          unfold cnNum at hcn
          rw [List.getD_eq_getElem?_getD,List.getElem?_eq_getElem hi] at h1 h2
          dsimp only [Option.getD_some] at h1 h2
          omega⟩
        have hcr:=hj.cr
        unfold flwOk at hcr
        have h4:=hl.l4
        obtain ⟨tk1,tk2,tk3,tk4,tk5⟩:=takeQ_ok c.Queue (ackL c) hqok hAok.1 (by omega)
        obtain ⟨g1,g2,g3,g4,g5⟩:=packN_ok (cr:=c.Credit.Max) hlu c.Lanes.length 0 (c.Lanes,c.Credit.Used,(takeQ c.Queue (ackL c)).1) (by omega) rfl (fun y hy=>W.wf_leLane y (hlu y hy).1) (by dsimp only;omega) tk1 (by dsimp only;omega)
        obtain ⟨p1,p2⟩:=packN_I (cr:=c.Credit.Max) hl.ln c.Lanes.length 0 (c.Lanes,c.Credit.Used,(takeQ c.Queue (ackL c)).1) (by omega) rfl hl.ln (fun i _=>rfl)
        unfold flTry flPk at *
        split
        · refine ⟨⟨hj.op,hj.gr,hj.id,hj.fl,?_,spSend_U _ _ _ _ hj.sp g5 g4,paceSend_wf _ _ hw.2.1,hj.ls,hj.rs,hj.cd⟩,⟨?_,asc_ids g1 p2 hl.asc,p1,?_,fun y hy=>?_⟩,spSend_n _ _ _ _,fun f hf=>(g4 f hf).1,g5⟩
          · unfold flwOk;exact ⟨g3.1,g3.2,hcr.2.2⟩
          · unfold cnSn cnPk;dsimp only;omega
          · unfold cnSn;dsimp only;omega
          · exact U_fr (tk2 y hy).1 (tk2 y hy).2
        · rename_i hh
          rw [if_neg hh] at h0
          exact quiet_I hj hl hAok.1 (by omega) h0
    · rename_i hn
      rw [if_neg hn] at h0;cases h0
  · rw [if_neg (by omega)] at h0;cases h0
theorem wrR_U {s:DSender} {b:List UInt8} {fin:Bool} (hw:U.wfSender s) (hn:ND s) (h0:(wrR s b fin).2=0):U.wfSender (wrR s b fin).1∧ND (wrR s b fin).1:=by
  unfold wrR at *
  split
  · rename_i h1;rw [if_pos h1] at h0;exact absurd h0 h1
  · rename_i h1
    rw [if_neg h1] at h0
    split
    · rename_i h2;rw [if_pos h2] at h0;cases h0
    · rename_i h2
      rw [if_neg h2] at h0
      split
      · rename_i h3;rw [if_pos h3] at h0;cases h0
      · rename_i h3
        unfold ND at *
        exact ⟨⟨by dsimp only;rw [List.length_append];omega,hw.2⟩,by dsimp only;rw [List.length_append];omega⟩
theorem writeR_I {B:Nat} {c:DConn} {id:Int} {b:List UInt8} {fin:Bool} (hj:HJ c) (hl:HL B c) (h0:(cnWriteR c id b fin).2=0):HJ (cnWriteR c id b fin).1∧HL B (cnWriteR c id b fin).1:=by
  unfold cnWriteR at *
  split
  · rename_i h1
    rw [if_pos h1] at h0
    split
    · rename_i h2;rw [if_pos h2] at h0;cases h0
    · rename_i h2
      rw [if_neg h2] at h0
      split
      · rename_i h3
        rw [if_pos h3] at h0
        split
        · rename_i h4
          obtain ⟨u1,u2,u3,u4,u5,u6,u7⟩:=hl.ln _ (getD_mem h3)
          obtain ⟨w1,w2⟩:=wrR_U u5 u6 h4
          exact ⟨HJ_set hj,HL_set hl h3 rfl ⟨u1,u2,u3,u4,w1,w2,u7⟩⟩
        · rename_i h4;rw [if_neg h4] at h0;exact absurd h0 h4
      · rename_i h3;rw [if_neg h3] at h0;cases h0
  · rename_i h1;rw [if_neg h1] at h0;cases h0
end Go.Proofs.YtendheafcbickaaGreat
