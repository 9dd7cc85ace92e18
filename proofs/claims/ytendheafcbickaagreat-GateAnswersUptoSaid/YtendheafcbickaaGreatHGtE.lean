
import Derived.Test.YtendheafcbickaaGreatHZip
import Derived.Test.YtendheafcbickaaGreatHGo
import Derived.Test.YtendheafcbickaaGreatHMg41
import Derived.Test.YtendheafcbickaaGreatHMg43
import Derived.Test.YtendheafcbickaaGreatHMg18
set_option linter.unusedVariables false
set_option linter.unusedSimpArgs false
set_option linter.unusedVariables false
namespace Go.Proofs.YtendheafcbickaaGreat
set_option maxRecDepth 100000
attribute [local irreducible] Run RunL QStep GStep Fn Less PL FnM
def gateC (g:DGate) (N:V):List V:=[.lit (.int .u64 g.Secret),.lit (.int .i64 g.Now),.lit (.int .i64 g.Next),N,.lit (.bool g.Tally0.Known),.lit (.int .i64 g.Tally0.Got),.lit (.int .i64 g.Tally0.Sent),.lit (.bool g.Tally1.Known),.lit (.int .i64 g.Tally1.Got),.lit (.int .i64 g.Tally1.Sent),.lit (.bool g.Tally2.Known),.lit (.int .i64 g.Tally2.Got),.lit (.int .i64 g.Tally2.Sent),.lit (.bool g.Tally3.Known),.lit (.int .i64 g.Tally3.Got),.lit (.int .i64 g.Tally3.Sent),.lit (.bool g.Retry),.lit (.int .i64 g.Shed)]
def deskC (g:DGate) (N O:V):List V:=[.lit (.int .u64 g.Secret),.lit (.int .i64 g.Now),.lit (.int .i64 g.Next),N,.lit (.bool g.Tally0.Known),.lit (.int .i64 g.Tally0.Got),.lit (.int .i64 g.Tally0.Sent),.lit (.bool g.Tally1.Known),.lit (.int .i64 g.Tally1.Got),.lit (.int .i64 g.Tally1.Sent),.lit (.bool g.Tally2.Known),.lit (.int .i64 g.Tally2.Got),.lit (.int .i64 g.Tally2.Sent),.lit (.bool g.Tally3.Known),.lit (.int .i64 g.Tally3.Got),.lit (.int .i64 g.Tally3.Sent),.lit (.bool g.Retry),.lit (.int .i64 g.Shed),O]
set_option maxHeartbeats 4000000 in
theorem gfresh_fnm (g:DGate) (hw:∀ y ∈ g.Notes,wfNote y) (hl:g.Notes.length≤1000000):FnM Tryz.prog 36 [.agg (encGate g)] [] 0 (.agg (gateC g (.own 0))) [(0,some (.row 90 29 (g.Notes.map encNote)))] 1:=by
  unfold gateC
  refine fnm_of_run (by kernel_rfl) Tryz.func36 rfl (by kernel_rfl) (by rfl) ?_
  (repeat' first|(refine go_ ?_;((repeat' first|exact True.intro|refine Two.mk ?_ ?_);all_goals intros))|fail "")
  refine r_for (fun k:Nat=>⟨[(1,.ptr 0 0 0 0),(2,.ptr 1 0 0 0),(7,.ro (g.Notes.map encNote)),(8,.lit (.int .i64 g.Notes.length)),(9,.lit (.int .i64 k)),(3,.own 2)],[(0,some (.box 28 [.lit (.int .u64 g.Secret),.lit (.int .i64 g.Now),.lit (.int .i64 g.Next),.ro (g.Notes.map encNote),.lit (.bool g.Tally0.Known),.lit (.int .i64 g.Tally0.Got),.lit (.int .i64 g.Tally0.Sent),.lit (.bool g.Tally1.Known),.lit (.int .i64 g.Tally1.Got),.lit (.int .i64 g.Tally1.Sent),.lit (.bool g.Tally2.Known),.lit (.int .i64 g.Tally2.Got),.lit (.int .i64 g.Tally2.Sent),.lit (.bool g.Tally3.Known),.lit (.int .i64 g.Tally3.Got),.lit (.int .i64 g.Tally3.Sent),.lit (.bool g.Retry),.lit (.int .i64 g.Shed)])),(1,some (.box 28 [.lit (.int .u64 0),.lit (.int .i64 0),.lit (.int .i64 0),.lit (.slice none 0 0),.lit (.bool false),.lit (.int .i64 0),.lit (.int .i64 0),.lit (.bool false),.lit (.int .i64 0),.lit (.int .i64 0),.lit (.bool false),.lit (.int .i64 0),.lit (.int .i64 0),.lit (.bool false),.lit (.int .i64 0),.lit (.int .i64 0),.lit (.bool false),.lit (.int .i64 0)])),(2,some (.row 90 29 ((g.Notes.take k).map encNote)))],3,Tryz.f36.ntmps⟩)
    (fun k=>k≤g.Notes.length) (fun k=>g.Notes.length - k) 0 (Nat.zero_le _) ((less_own (n:=2) (t:=3) 90 29 rfl rfl rfl).trans (by (exact lessA_))) ?_
  intro k hk
  by_cases hkn:k<g.Notes.length
  · have hf:=hw _ (getD_mem hkn)
    have h1:Fn Tryz.prog 60 [.agg (encConn (g.Notes.getD k default).Conn)] (.agg (encConn (g.Notes.getD k default).Conn)):=fn_of_fnm (fnm_ren (cfresh_fnm _ hf.2.2.2.2) [] rfl rfl trivial)
    clear hf hw
    (repeat' first|(refine s_call (h1) (h:=?_))|(refine p_call (h1) (h:=?_))|(refine s_app (r:=(g.Notes.take (k+1)).map encNote) ?_ ?_ ?_ ?_ (h:=?_);(exact Z65_);(exact Z47_);(exact Z12_);(exact Z22_))|(refine s_app0R (r:=(g.Notes.take (k+1)).map encNote) ?_ ?_ ?_ ?_ (h:=?_);(exact Z65_);(exact Z47_);(exact Z12_);(exact Z22_))|(refine p_app (r:=(g.Notes.take (k+1)).map encNote) ?_ ?_ ?_ ?_ (h:=?_);(exact Z65_);(exact Z47_);(exact Z12_);(exact Z22_))|(refine go_ ?_;((repeat' first|exact True.intro|refine Two.mk ?_ ?_);all_goals intros))|fail "")
    all_goals first
      | (refine ⟨k+1,?_,?_,?_⟩;rotate_left 2;(exact lessA_);(exact Z69_);(exact Z67_))
      | skip
  · have hkl:k=g.Notes.length:=by omega
    subst hkl
    rw [List.take_length]
    (repeat' first|(refine go_ ?_;((repeat' first|exact True.intro|refine Two.mk ?_ ?_);all_goals intros))|fail "")
    all_goals first
      | (exact endmA_)
      | skip
theorem gfresh_fn (g:DGate) (hw:∀ y ∈ g.Notes,wfNote y) (hl:g.Notes.length≤1000000):Fn Tryz.prog 36 [.agg (encGate g)] (.agg (encGate g)):=fn_of_fnm (fnm_ren (gfresh_fnm g hw hl) [] rfl rfl trivial)
set_option maxHeartbeats 8000000 in
theorem deskSend_fnm (g:DGate) (out:List DMail) (p:Int) (b:List UInt8) (N:List (List V)) (hg:GJ g) (hp:0≤p∧p≤3) (ho:out.length≤1000000) (hb:b.length≤1000000) (ok:Bool) (G:DGate) (hR:sendR g p b=(G,ok)) :
    FnM Tryz.prog 103 [.ptr 0 0 0 0,.lit (.int .i64 p),.ro (b.map encB)] [(0,some (.box 86 (deskC g (.ro N) (.own 1)))),(1,some (.row 99 2 (out.map encMail)))] 2
      (.lit (.bool ok)) [(0,some (.box 86 (deskC G (.ro N) (.own 2)))),(2,some (.row 99 2 ((if ok=true then out++[⟨p,b⟩] else out).map encMail)))] 3:=by
  unfold sendR at hR
  have h1:=fun i=>tallySend_fn (gtTal g i) (b.length:Int) (tOk_wf (hg.tal i))
  clear hg
  unfold deskC
  obtain ⟨sec,now,nxt,notes,ta0,ta1,ta2,ta3,rt,sh⟩:=g
  dsimp only at *
  rcases (show p=0∨p=1∨p=2∨p=3 by omega) with rfl|rfl|rfl|rfl
  · have h1:=h1 0
    rw [show (0:Int).toNat=0 from rfl] at hR
    rw [show gtTal (⟨sec,now,nxt,notes,ta0,ta1,ta2,ta3,rt,sh⟩:DGate) 0=ta0 from rfl] at h1 hR
    generalize tSend ta0 (b.length:Int)=T at *
    obtain ⟨t,e⟩:=T
    dsimp only at h1 hR
    by_cases he:e=0
    · subst he
      rw [if_pos rfl] at hR
      rw [show gtSetT (⟨sec,now,nxt,notes,ta0,ta1,ta2,ta3,rt,sh⟩:DGate) 0 t=(⟨sec,now,nxt,notes,t,ta1,ta2,ta3,rt,sh⟩:DGate) from rfl] at hR
      obtain ⟨rfl,rfl⟩:=Prod.mk.inj hR
      dsimp only
      rw [if_pos rfl]
      refine fnm_of_run (by kernel_rfl) Tryz.func103 rfl (by kernel_rfl) (by rfl) ?_
      (repeat' first|refine s_i (hq:=q_index_arr (n:=0) rfl rfl rfl rfl rfl (by omega) rfl) (h:=?_)|refine p_i (hq:=fun _=>q_index_arr (n:=0) rfl rfl rfl rfl rfl (by omega) rfl) (h:=?_)|(refine s_call (h1) (h:=?_))|(refine p_call (h1) (h:=?_))|(refine goV_ 4 ?_;((repeat' first|exact True.intro|refine Two.mk ?_ ?_);all_goals intros))|refine s_i (h:=?_)|refine s_i (hq:=q_index_ro rfl rfl rfl (by first|exact lit0|exact lit1|exact lit2|exact lit3|rfl) (by simp only [List.length_cons,List.length_nil];omega) rfl rfl rfl rfl) (h:=?_)|refine p_i (h:=?_)|refine p_ih (h:=?_)|refine s_lit (h:=?_)|refine p_lit (h:=?_)|refine p_lit0 (h:=?_)|refine s_lit0 (h:=?_)|refine s_ixa (h:=?_)|refine s_insert (h:=?_)|(refine s_sadd rfl ?_ (h:=?_);(exact Z11_))|(refine p_sadd rfl ?_ (h:=?_);(exact Z11_))|fail "")
      all_goals try (exfalso;omega)
      refine r_seq ?_
      refine r_drawW [(7,0)] ?_
      (repeat' first|refine s_i (hq:=q_index_arr (n:=0) rfl rfl rfl rfl rfl (by omega) rfl) (h:=?_)|refine p_i (hq:=fun _=>q_index_arr (n:=0) rfl rfl rfl rfl rfl (by omega) rfl) (h:=?_)|(refine s_app (r:=(out++[DMail.mk 0 b]).map encMail) ?_ ?_ ?_ ?_ (h:=?_);(exact Z65_);(exact Z47_);(exact Z12_);(exact Z22_))|(refine s_app0R (r:=(out++[DMail.mk 0 b]).map encMail) ?_ ?_ ?_ ?_ (h:=?_);(exact Z65_);(exact Z47_);(exact Z12_);(exact Z22_))|(refine p_app (r:=(out++[DMail.mk 0 b]).map encMail) ?_ ?_ ?_ ?_ (h:=?_);(exact Z65_);(exact Z47_);(exact Z12_);(exact Z22_))|(refine goI_ ?_;((repeat' first|exact True.intro|refine Two.mk ?_ ?_);all_goals intros))|refine s_i (h:=?_)|refine s_i (hq:=q_index_ro rfl rfl rfl (by first|exact lit0|exact lit1|exact lit2|exact lit3|rfl) (by simp only [List.length_cons,List.length_nil];omega) rfl rfl rfl rfl) (h:=?_)|refine p_i (h:=?_)|refine p_ih (h:=?_)|refine s_lit (h:=?_)|refine p_lit (h:=?_)|refine p_lit0 (h:=?_)|refine s_lit0 (h:=?_)|refine s_ixa (h:=?_)|refine s_insert (h:=?_)|(refine s_sadd rfl ?_ (h:=?_);(exact Z11_))|(refine p_sadd rfl ?_ (h:=?_);(exact Z11_))|fail "")
      all_goals first
        | (exact endmA_)
        | (exfalso;omega)
        | skip
    · rw [if_neg he] at hR
      obtain ⟨rfl,rfl⟩:=Prod.mk.inj hR
      dsimp only
      rw [if_neg (by decide)]
      refine fnm_of_run (by kernel_rfl) Tryz.func103 rfl (by kernel_rfl) (by rfl) ?_
      refine r_less (mv_ 1 (st':=⟨[(0,.ptr 0 0 0 0),(1,.lit (.int .i64 0)),(2,.ro (b.map encB))],[(0,some (.box 86 [.lit (.int .u64 sec),.lit (.int .i64 now),.lit (.int .i64 nxt),.ro N,.lit (.bool ta0.Known),.lit (.int .i64 ta0.Got),.lit (.int .i64 ta0.Sent),.lit (.bool ta1.Known),.lit (.int .i64 ta1.Got),.lit (.int .i64 ta1.Sent),.lit (.bool ta2.Known),.lit (.int .i64 ta2.Got),.lit (.int .i64 ta2.Sent),.lit (.bool ta3.Known),.lit (.int .i64 ta3.Got),.lit (.int .i64 ta3.Sent),.lit (.bool rt),.lit (.int .i64 sh),.own 2])),(2,some (.row 99 2 (out.map encMail)))],3,Tryz.f103.ntmps⟩)) ?_
      (repeat' first|refine s_i (hq:=q_index_arr (n:=0) rfl rfl rfl rfl rfl (by omega) rfl) (h:=?_)|refine p_i (hq:=fun _=>q_index_arr (n:=0) rfl rfl rfl rfl rfl (by omega) rfl) (h:=?_)|(refine s_call (h1) (h:=?_))|(refine p_call (h1) (h:=?_))|(refine goI_ ?_;((repeat' first|exact True.intro|refine Two.mk ?_ ?_);all_goals intros))|refine s_i (h:=?_)|refine s_i (hq:=q_index_ro rfl rfl rfl (by first|exact lit0|exact lit1|exact lit2|exact lit3|rfl) (by simp only [List.length_cons,List.length_nil];omega) rfl rfl rfl rfl) (h:=?_)|refine p_i (h:=?_)|refine p_ih (h:=?_)|refine s_lit (h:=?_)|refine p_lit (h:=?_)|refine p_lit0 (h:=?_)|refine s_lit0 (h:=?_)|refine s_ixa (h:=?_)|refine s_insert (h:=?_)|(refine s_sadd rfl ?_ (h:=?_);(exact Z11_))|(refine p_sadd rfl ?_ (h:=?_);(exact Z11_))|fail "")
      all_goals first
        | (exact endmA_)
        | (exfalso;omega)
        | skip
  · have h1:=h1 1
    rw [show (1:Int).toNat=1 from rfl] at hR
    rw [show gtTal (⟨sec,now,nxt,notes,ta0,ta1,ta2,ta3,rt,sh⟩:DGate) 1=ta1 from rfl] at h1 hR
    generalize tSend ta1 (b.length:Int)=T at *
    obtain ⟨t,e⟩:=T
    dsimp only at h1 hR
    by_cases he:e=0
    · subst he
      rw [if_pos rfl] at hR
      rw [show gtSetT (⟨sec,now,nxt,notes,ta0,ta1,ta2,ta3,rt,sh⟩:DGate) 1 t=(⟨sec,now,nxt,notes,ta0,t,ta2,ta3,rt,sh⟩:DGate) from rfl] at hR
      obtain ⟨rfl,rfl⟩:=Prod.mk.inj hR
      dsimp only
      rw [if_pos rfl]
      refine fnm_of_run (by kernel_rfl) Tryz.func103 rfl (by kernel_rfl) (by rfl) ?_
      (repeat' first|refine s_i (hq:=q_index_arr (n:=1) rfl rfl rfl rfl rfl (by omega) rfl) (h:=?_)|refine p_i (hq:=fun _=>q_index_arr (n:=1) rfl rfl rfl rfl rfl (by omega) rfl) (h:=?_)|(refine s_call (h1) (h:=?_))|(refine p_call (h1) (h:=?_))|(refine goV_ 4 ?_;((repeat' first|exact True.intro|refine Two.mk ?_ ?_);all_goals intros))|refine s_i (h:=?_)|refine s_i (hq:=q_index_ro rfl rfl rfl (by first|exact lit0|exact lit1|exact lit2|exact lit3|rfl) (by simp only [List.length_cons,List.length_nil];omega) rfl rfl rfl rfl) (h:=?_)|refine p_i (h:=?_)|refine p_ih (h:=?_)|refine s_lit (h:=?_)|refine p_lit (h:=?_)|refine p_lit0 (h:=?_)|refine s_lit0 (h:=?_)|refine s_ixa (h:=?_)|refine s_insert (h:=?_)|(refine s_sadd rfl ?_ (h:=?_);(exact Z11_))|(refine p_sadd rfl ?_ (h:=?_);(exact Z11_))|fail "")
      all_goals try (exfalso;omega)
      refine r_seq ?_
      refine r_drawW [(7,0)] ?_
      (repeat' first|refine s_i (hq:=q_index_arr (n:=1) rfl rfl rfl rfl rfl (by omega) rfl) (h:=?_)|refine p_i (hq:=fun _=>q_index_arr (n:=1) rfl rfl rfl rfl rfl (by omega) rfl) (h:=?_)|(refine s_app (r:=(out++[DMail.mk 1 b]).map encMail) ?_ ?_ ?_ ?_ (h:=?_);(exact Z65_);(exact Z47_);(exact Z12_);(exact Z22_))|(refine s_app0R (r:=(out++[DMail.mk 1 b]).map encMail) ?_ ?_ ?_ ?_ (h:=?_);(exact Z65_);(exact Z47_);(exact Z12_);(exact Z22_))|(refine p_app (r:=(out++[DMail.mk 1 b]).map encMail) ?_ ?_ ?_ ?_ (h:=?_);(exact Z65_);(exact Z47_);(exact Z12_);(exact Z22_))|(refine goI_ ?_;((repeat' first|exact True.intro|refine Two.mk ?_ ?_);all_goals intros))|refine s_i (h:=?_)|refine s_i (hq:=q_index_ro rfl rfl rfl (by first|exact lit0|exact lit1|exact lit2|exact lit3|rfl) (by simp only [List.length_cons,List.length_nil];omega) rfl rfl rfl rfl) (h:=?_)|refine p_i (h:=?_)|refine p_ih (h:=?_)|refine s_lit (h:=?_)|refine p_lit (h:=?_)|refine p_lit0 (h:=?_)|refine s_lit0 (h:=?_)|refine s_ixa (h:=?_)|refine s_insert (h:=?_)|(refine s_sadd rfl ?_ (h:=?_);(exact Z11_))|(refine p_sadd rfl ?_ (h:=?_);(exact Z11_))|fail "")
      all_goals first
        | (exact endmA_)
        | (exfalso;omega)
        | skip
    · rw [if_neg he] at hR
      obtain ⟨rfl,rfl⟩:=Prod.mk.inj hR
      dsimp only
      rw [if_neg (by decide)]
      refine fnm_of_run (by kernel_rfl) Tryz.func103 rfl (by kernel_rfl) (by rfl) ?_
      refine r_less (mv_ 1 (st':=⟨[(0,.ptr 0 0 0 0),(1,.lit (.int .i64 1)),(2,.ro (b.map encB))],[(0,some (.box 86 [.lit (.int .u64 sec),.lit (.int .i64 now),.lit (.int .i64 nxt),.ro N,.lit (.bool ta0.Known),.lit (.int .i64 ta0.Got),.lit (.int .i64 ta0.Sent),.lit (.bool ta1.Known),.lit (.int .i64 ta1.Got),.lit (.int .i64 ta1.Sent),.lit (.bool ta2.Known),.lit (.int .i64 ta2.Got),.lit (.int .i64 ta2.Sent),.lit (.bool ta3.Known),.lit (.int .i64 ta3.Got),.lit (.int .i64 ta3.Sent),.lit (.bool rt),.lit (.int .i64 sh),.own 2])),(2,some (.row 99 2 (out.map encMail)))],3,Tryz.f103.ntmps⟩)) ?_
      (repeat' first|refine s_i (hq:=q_index_arr (n:=1) rfl rfl rfl rfl rfl (by omega) rfl) (h:=?_)|refine p_i (hq:=fun _=>q_index_arr (n:=1) rfl rfl rfl rfl rfl (by omega) rfl) (h:=?_)|(refine s_call (h1) (h:=?_))|(refine p_call (h1) (h:=?_))|(refine goI_ ?_;((repeat' first|exact True.intro|refine Two.mk ?_ ?_);all_goals intros))|refine s_i (h:=?_)|refine s_i (hq:=q_index_ro rfl rfl rfl (by first|exact lit0|exact lit1|exact lit2|exact lit3|rfl) (by simp only [List.length_cons,List.length_nil];omega) rfl rfl rfl rfl) (h:=?_)|refine p_i (h:=?_)|refine p_ih (h:=?_)|refine s_lit (h:=?_)|refine p_lit (h:=?_)|refine p_lit0 (h:=?_)|refine s_lit0 (h:=?_)|refine s_ixa (h:=?_)|refine s_insert (h:=?_)|(refine s_sadd rfl ?_ (h:=?_);(exact Z11_))|(refine p_sadd rfl ?_ (h:=?_);(exact Z11_))|fail "")
      all_goals first
        | (exact endmA_)
        | (exfalso;omega)
        | skip
  · have h1:=h1 2
    rw [show (2:Int).toNat=2 from rfl] at hR
    rw [show gtTal (⟨sec,now,nxt,notes,ta0,ta1,ta2,ta3,rt,sh⟩:DGate) 2=ta2 from rfl] at h1 hR
    generalize tSend ta2 (b.length:Int)=T at *
    obtain ⟨t,e⟩:=T
    dsimp only at h1 hR
    by_cases he:e=0
    · subst he
      rw [if_pos rfl] at hR
      rw [show gtSetT (⟨sec,now,nxt,notes,ta0,ta1,ta2,ta3,rt,sh⟩:DGate) 2 t=(⟨sec,now,nxt,notes,ta0,ta1,t,ta3,rt,sh⟩:DGate) from rfl] at hR
      obtain ⟨rfl,rfl⟩:=Prod.mk.inj hR
      dsimp only
      rw [if_pos rfl]
      refine fnm_of_run (by kernel_rfl) Tryz.func103 rfl (by kernel_rfl) (by rfl) ?_
      (repeat' first|refine s_i (hq:=q_index_arr (n:=2) rfl rfl rfl rfl rfl (by omega) rfl) (h:=?_)|refine p_i (hq:=fun _=>q_index_arr (n:=2) rfl rfl rfl rfl rfl (by omega) rfl) (h:=?_)|(refine s_call (h1) (h:=?_))|(refine p_call (h1) (h:=?_))|(refine goV_ 4 ?_;((repeat' first|exact True.intro|refine Two.mk ?_ ?_);all_goals intros))|refine s_i (h:=?_)|refine s_i (hq:=q_index_ro rfl rfl rfl (by first|exact lit0|exact lit1|exact lit2|exact lit3|rfl) (by simp only [List.length_cons,List.length_nil];omega) rfl rfl rfl rfl) (h:=?_)|refine p_i (h:=?_)|refine p_ih (h:=?_)|refine s_lit (h:=?_)|refine p_lit (h:=?_)|refine p_lit0 (h:=?_)|refine s_lit0 (h:=?_)|refine s_ixa (h:=?_)|refine s_insert (h:=?_)|(refine s_sadd rfl ?_ (h:=?_);(exact Z11_))|(refine p_sadd rfl ?_ (h:=?_);(exact Z11_))|fail "")
      all_goals try (exfalso;omega)
      refine r_seq ?_
      refine r_drawW [(7,0)] ?_
      (repeat' first|refine s_i (hq:=q_index_arr (n:=2) rfl rfl rfl rfl rfl (by omega) rfl) (h:=?_)|refine p_i (hq:=fun _=>q_index_arr (n:=2) rfl rfl rfl rfl rfl (by omega) rfl) (h:=?_)|(refine s_app (r:=(out++[DMail.mk 2 b]).map encMail) ?_ ?_ ?_ ?_ (h:=?_);(exact Z65_);(exact Z47_);(exact Z12_);(exact Z22_))|(refine s_app0R (r:=(out++[DMail.mk 2 b]).map encMail) ?_ ?_ ?_ ?_ (h:=?_);(exact Z65_);(exact Z47_);(exact Z12_);(exact Z22_))|(refine p_app (r:=(out++[DMail.mk 2 b]).map encMail) ?_ ?_ ?_ ?_ (h:=?_);(exact Z65_);(exact Z47_);(exact Z12_);(exact Z22_))|(refine goI_ ?_;((repeat' first|exact True.intro|refine Two.mk ?_ ?_);all_goals intros))|refine s_i (h:=?_)|refine s_i (hq:=q_index_ro rfl rfl rfl (by first|exact lit0|exact lit1|exact lit2|exact lit3|rfl) (by simp only [List.length_cons,List.length_nil];omega) rfl rfl rfl rfl) (h:=?_)|refine p_i (h:=?_)|refine p_ih (h:=?_)|refine s_lit (h:=?_)|refine p_lit (h:=?_)|refine p_lit0 (h:=?_)|refine s_lit0 (h:=?_)|refine s_ixa (h:=?_)|refine s_insert (h:=?_)|(refine s_sadd rfl ?_ (h:=?_);(exact Z11_))|(refine p_sadd rfl ?_ (h:=?_);(exact Z11_))|fail "")
      all_goals first
        | (exact endmA_)
        | (exfalso;omega)
        | skip
    · rw [if_neg he] at hR
      obtain ⟨rfl,rfl⟩:=Prod.mk.inj hR
      dsimp only
      rw [if_neg (by decide)]
      refine fnm_of_run (by kernel_rfl) Tryz.func103 rfl (by kernel_rfl) (by rfl) ?_
      refine r_less (mv_ 1 (st':=⟨[(0,.ptr 0 0 0 0),(1,.lit (.int .i64 2)),(2,.ro (b.map encB))],[(0,some (.box 86 [.lit (.int .u64 sec),.lit (.int .i64 now),.lit (.int .i64 nxt),.ro N,.lit (.bool ta0.Known),.lit (.int .i64 ta0.Got),.lit (.int .i64 ta0.Sent),.lit (.bool ta1.Known),.lit (.int .i64 ta1.Got),.lit (.int .i64 ta1.Sent),.lit (.bool ta2.Known),.lit (.int .i64 ta2.Got),.lit (.int .i64 ta2.Sent),.lit (.bool ta3.Known),.lit (.int .i64 ta3.Got),.lit (.int .i64 ta3.Sent),.lit (.bool rt),.lit (.int .i64 sh),.own 2])),(2,some (.row 99 2 (out.map encMail)))],3,Tryz.f103.ntmps⟩)) ?_
      (repeat' first|refine s_i (hq:=q_index_arr (n:=2) rfl rfl rfl rfl rfl (by omega) rfl) (h:=?_)|refine p_i (hq:=fun _=>q_index_arr (n:=2) rfl rfl rfl rfl rfl (by omega) rfl) (h:=?_)|(refine s_call (h1) (h:=?_))|(refine p_call (h1) (h:=?_))|(refine goI_ ?_;((repeat' first|exact True.intro|refine Two.mk ?_ ?_);all_goals intros))|refine s_i (h:=?_)|refine s_i (hq:=q_index_ro rfl rfl rfl (by first|exact lit0|exact lit1|exact lit2|exact lit3|rfl) (by simp only [List.length_cons,List.length_nil];omega) rfl rfl rfl rfl) (h:=?_)|refine p_i (h:=?_)|refine p_ih (h:=?_)|refine s_lit (h:=?_)|refine p_lit (h:=?_)|refine p_lit0 (h:=?_)|refine s_lit0 (h:=?_)|refine s_ixa (h:=?_)|refine s_insert (h:=?_)|(refine s_sadd rfl ?_ (h:=?_);(exact Z11_))|(refine p_sadd rfl ?_ (h:=?_);(exact Z11_))|fail "")
      all_goals first
        | (exact endmA_)
        | (exfalso;omega)
        | skip
  · have h1:=h1 3
    rw [show (3:Int).toNat=3 from rfl] at hR
    rw [show gtTal (⟨sec,now,nxt,notes,ta0,ta1,ta2,ta3,rt,sh⟩:DGate) 3=ta3 from rfl] at h1 hR
    generalize tSend ta3 (b.length:Int)=T at *
    obtain ⟨t,e⟩:=T
    dsimp only at h1 hR
    by_cases he:e=0
    · subst he
      rw [if_pos rfl] at hR
      rw [show gtSetT (⟨sec,now,nxt,notes,ta0,ta1,ta2,ta3,rt,sh⟩:DGate) 3 t=(⟨sec,now,nxt,notes,ta0,ta1,ta2,t,rt,sh⟩:DGate) from rfl] at hR
      obtain ⟨rfl,rfl⟩:=Prod.mk.inj hR
      dsimp only
      rw [if_pos rfl]
      refine fnm_of_run (by kernel_rfl) Tryz.func103 rfl (by kernel_rfl) (by rfl) ?_
      (repeat' first|refine s_i (hq:=q_index_arr (n:=3) rfl rfl rfl rfl rfl (by omega) rfl) (h:=?_)|refine p_i (hq:=fun _=>q_index_arr (n:=3) rfl rfl rfl rfl rfl (by omega) rfl) (h:=?_)|(refine s_call (h1) (h:=?_))|(refine p_call (h1) (h:=?_))|(refine goV_ 4 ?_;((repeat' first|exact True.intro|refine Two.mk ?_ ?_);all_goals intros))|refine s_i (h:=?_)|refine s_i (hq:=q_index_ro rfl rfl rfl (by first|exact lit0|exact lit1|exact lit2|exact lit3|rfl) (by simp only [List.length_cons,List.length_nil];omega) rfl rfl rfl rfl) (h:=?_)|refine p_i (h:=?_)|refine p_ih (h:=?_)|refine s_lit (h:=?_)|refine p_lit (h:=?_)|refine p_lit0 (h:=?_)|refine s_lit0 (h:=?_)|refine s_ixa (h:=?_)|refine s_insert (h:=?_)|(refine s_sadd rfl ?_ (h:=?_);(exact Z11_))|(refine p_sadd rfl ?_ (h:=?_);(exact Z11_))|fail "")
      all_goals try (exfalso;omega)
      refine r_seq ?_
      refine r_drawW [(7,0)] ?_
      (repeat' first|refine s_i (hq:=q_index_arr (n:=3) rfl rfl rfl rfl rfl (by omega) rfl) (h:=?_)|refine p_i (hq:=fun _=>q_index_arr (n:=3) rfl rfl rfl rfl rfl (by omega) rfl) (h:=?_)|(refine s_app (r:=(out++[DMail.mk 3 b]).map encMail) ?_ ?_ ?_ ?_ (h:=?_);(exact Z65_);(exact Z47_);(exact Z12_);(exact Z22_))|(refine s_app0R (r:=(out++[DMail.mk 3 b]).map encMail) ?_ ?_ ?_ ?_ (h:=?_);(exact Z65_);(exact Z47_);(exact Z12_);(exact Z22_))|(refine p_app (r:=(out++[DMail.mk 3 b]).map encMail) ?_ ?_ ?_ ?_ (h:=?_);(exact Z65_);(exact Z47_);(exact Z12_);(exact Z22_))|(refine goI_ ?_;((repeat' first|exact True.intro|refine Two.mk ?_ ?_);all_goals intros))|refine s_i (h:=?_)|refine s_i (hq:=q_index_ro rfl rfl rfl (by first|exact lit0|exact lit1|exact lit2|exact lit3|rfl) (by simp only [List.length_cons,List.length_nil];omega) rfl rfl rfl rfl) (h:=?_)|refine p_i (h:=?_)|refine p_ih (h:=?_)|refine s_lit (h:=?_)|refine p_lit (h:=?_)|refine p_lit0 (h:=?_)|refine s_lit0 (h:=?_)|refine s_ixa (h:=?_)|refine s_insert (h:=?_)|(refine s_sadd rfl ?_ (h:=?_);(exact Z11_))|(refine p_sadd rfl ?_ (h:=?_);(exact Z11_))|fail "")
      all_goals first
        | (exact endmA_)
        | (exfalso;omega)
        | skip
    · rw [if_neg he] at hR
      obtain ⟨rfl,rfl⟩:=Prod.mk.inj hR
      dsimp only
      rw [if_neg (by decide)]
      refine fnm_of_run (by kernel_rfl) Tryz.func103 rfl (by kernel_rfl) (by rfl) ?_
      refine r_less (mv_ 1 (st':=⟨[(0,.ptr 0 0 0 0),(1,.lit (.int .i64 3)),(2,.ro (b.map encB))],[(0,some (.box 86 [.lit (.int .u64 sec),.lit (.int .i64 now),.lit (.int .i64 nxt),.ro N,.lit (.bool ta0.Known),.lit (.int .i64 ta0.Got),.lit (.int .i64 ta0.Sent),.lit (.bool ta1.Known),.lit (.int .i64 ta1.Got),.lit (.int .i64 ta1.Sent),.lit (.bool ta2.Known),.lit (.int .i64 ta2.Got),.lit (.int .i64 ta2.Sent),.lit (.bool ta3.Known),.lit (.int .i64 ta3.Got),.lit (.int .i64 ta3.Sent),.lit (.bool rt),.lit (.int .i64 sh),.own 2])),(2,some (.row 99 2 (out.map encMail)))],3,Tryz.f103.ntmps⟩)) ?_
      (repeat' first|refine s_i (hq:=q_index_arr (n:=3) rfl rfl rfl rfl rfl (by omega) rfl) (h:=?_)|refine p_i (hq:=fun _=>q_index_arr (n:=3) rfl rfl rfl rfl rfl (by omega) rfl) (h:=?_)|(refine s_call (h1) (h:=?_))|(refine p_call (h1) (h:=?_))|(refine goI_ ?_;((repeat' first|exact True.intro|refine Two.mk ?_ ?_);all_goals intros))|refine s_i (h:=?_)|refine s_i (hq:=q_index_ro rfl rfl rfl (by first|exact lit0|exact lit1|exact lit2|exact lit3|rfl) (by simp only [List.length_cons,List.length_nil];omega) rfl rfl rfl rfl) (h:=?_)|refine p_i (h:=?_)|refine p_ih (h:=?_)|refine s_lit (h:=?_)|refine p_lit (h:=?_)|refine p_lit0 (h:=?_)|refine s_lit0 (h:=?_)|refine s_ixa (h:=?_)|refine s_insert (h:=?_)|(refine s_sadd rfl ?_ (h:=?_);(exact Z11_))|(refine p_sadd rfl ?_ (h:=?_);(exact Z11_))|fail "")
      all_goals first
        | (exact endmA_)
        | (exfalso;omega)
        | skip
set_option maxHeartbeats 8000000 in
theorem mailed_fn (g:DGate) (out:List DMail) (p:Int) (b:List UInt8) (hg:GJ g) (hp:0≤p∧p≤3) (ho:out.length≤1000000) (hb:b.length≤1000000) (ok:Bool) (G:DGate) (hR:sendR g p b=(G,ok)) :
    Fn Tryz.prog 110 [.agg (encGate g),.ro (out.map encMail),.lit (.int .i64 p),.ro (b.map encB)] (.tup [.agg (encGate G),.ro ((if ok=true then out++[⟨p,b⟩] else out).map encMail),.lit (.bool ok)]):=by
  unfold sendR at hR
  have h1:=fun i=>tallySentRef_fn (gtTal g i) (b.length:Int) (tOk_wf (hg.tal i))
  clear hg
  obtain ⟨sec,now,nxt,notes,ta0,ta1,ta2,ta3,rt,sh⟩:=g
  rcases (show p=0∨p=1∨p=2∨p=3 by omega) with rfl|rfl|rfl|rfl
  · have h1:=h1 0
    rw [show (0:Int).toNat=0 from rfl] at hR
    rw [show gtTal (⟨sec,now,nxt,notes,ta0,ta1,ta2,ta3,rt,sh⟩:DGate) 0=ta0 from rfl] at h1 hR
    generalize tSend ta0 (b.length:Int)=T at *
    obtain ⟨t,e⟩:=T
    dsimp only at h1 hR
    by_cases he:e=0
    · subst he
      rw [if_pos rfl] at hR
      rw [show gtSetT (⟨sec,now,nxt,notes,ta0,ta1,ta2,ta3,rt,sh⟩:DGate) 0 t=(⟨sec,now,nxt,notes,t,ta1,ta2,ta3,rt,sh⟩:DGate) from rfl] at hR
      obtain ⟨rfl,rfl⟩:=Prod.mk.inj hR
      rw [if_pos rfl]
      refine fn_of_run (by kernel_rfl) Tryz.func110 rfl (by kernel_rfl) ?_
      (repeat' first|refine s_i (hq:=q_index_arr (n:=0) rfl rfl rfl rfl rfl (by omega) rfl) (h:=?_)|refine p_i (hq:=fun _=>q_index_arr (n:=0) rfl rfl rfl rfl rfl (by omega) rfl) (h:=?_)|(refine s_call (h1) (h:=?_))|(refine p_call (h1) (h:=?_))|(refine s_app (r:=out.map encMail) ?_ ?_ ?_ ?_ (h:=?_);(exact Z65_);(exact Z47_);(exact Z12_);(exact Z22_))|(refine s_app0R (r:=out.map encMail) ?_ ?_ ?_ ?_ (h:=?_);(exact Z65_);(exact Z47_);(exact Z12_);(exact Z22_))|(refine p_app (r:=out.map encMail) ?_ ?_ ?_ ?_ (h:=?_);(exact Z65_);(exact Z47_);(exact Z12_);(exact Z22_))|(refine s_app (r:=(out++[DMail.mk 0 b]).map encMail) ?_ ?_ ?_ ?_ (h:=?_);(exact Z65_);(exact Z47_);(exact Z12_);(exact Z22_))|(refine s_app0R (r:=(out++[DMail.mk 0 b]).map encMail) ?_ ?_ ?_ ?_ (h:=?_);(exact Z65_);(exact Z47_);(exact Z12_);(exact Z22_))|(refine p_app (r:=(out++[DMail.mk 0 b]).map encMail) ?_ ?_ ?_ ?_ (h:=?_);(exact Z65_);(exact Z47_);(exact Z12_);(exact Z22_))|(refine goI_ ?_;((repeat' first|exact True.intro|refine Two.mk ?_ ?_);all_goals intros))|refine s_i (h:=?_)|refine s_i (hq:=q_index_ro rfl rfl rfl (by first|exact lit0|exact lit1|exact lit2|exact lit3|rfl) (by simp only [List.length_cons,List.length_nil];omega) rfl rfl rfl rfl) (h:=?_)|refine p_i (h:=?_)|refine p_ih (h:=?_)|refine s_lit (h:=?_)|refine p_lit (h:=?_)|refine p_lit0 (h:=?_)|refine s_lit0 (h:=?_)|refine s_ixa (h:=?_)|refine s_insert (h:=?_)|(refine s_sadd rfl ?_ (h:=?_);(exact Z11_))|(refine p_sadd rfl ?_ (h:=?_);(exact Z11_))|fail "")
      all_goals first
        | (exact endwA_)
        | (exfalso;omega)
        | skip
    · rw [if_neg he] at hR
      obtain ⟨rfl,rfl⟩:=Prod.mk.inj hR
      rw [if_neg (by decide)]
      refine fn_of_run (by kernel_rfl) Tryz.func110 rfl (by kernel_rfl) ?_
      (repeat' first|refine s_i (hq:=q_index_arr (n:=0) rfl rfl rfl rfl rfl (by omega) rfl) (h:=?_)|refine p_i (hq:=fun _=>q_index_arr (n:=0) rfl rfl rfl rfl rfl (by omega) rfl) (h:=?_)|(refine s_call (h1) (h:=?_))|(refine p_call (h1) (h:=?_))|(refine goI_ ?_;((repeat' first|exact True.intro|refine Two.mk ?_ ?_);all_goals intros))|refine s_i (h:=?_)|refine s_i (hq:=q_index_ro rfl rfl rfl (by first|exact lit0|exact lit1|exact lit2|exact lit3|rfl) (by simp only [List.length_cons,List.length_nil];omega) rfl rfl rfl rfl) (h:=?_)|refine p_i (h:=?_)|refine p_ih (h:=?_)|refine s_lit (h:=?_)|refine p_lit (h:=?_)|refine p_lit0 (h:=?_)|refine s_lit0 (h:=?_)|refine s_ixa (h:=?_)|refine s_insert (h:=?_)|(refine s_sadd rfl ?_ (h:=?_);(exact Z11_))|(refine p_sadd rfl ?_ (h:=?_);(exact Z11_))|fail "")
      all_goals first
        | (exact endwA_)
        | (exfalso;omega)
        | skip
  · have h1:=h1 1
    rw [show (1:Int).toNat=1 from rfl] at hR
    rw [show gtTal (⟨sec,now,nxt,notes,ta0,ta1,ta2,ta3,rt,sh⟩:DGate) 1=ta1 from rfl] at h1 hR
    generalize tSend ta1 (b.length:Int)=T at *
    obtain ⟨t,e⟩:=T
    dsimp only at h1 hR
    by_cases he:e=0
    · subst he
      rw [if_pos rfl] at hR
      rw [show gtSetT (⟨sec,now,nxt,notes,ta0,ta1,ta2,ta3,rt,sh⟩:DGate) 1 t=(⟨sec,now,nxt,notes,ta0,t,ta2,ta3,rt,sh⟩:DGate) from rfl] at hR
      obtain ⟨rfl,rfl⟩:=Prod.mk.inj hR
      rw [if_pos rfl]
      refine fn_of_run (by kernel_rfl) Tryz.func110 rfl (by kernel_rfl) ?_
      (repeat' first|refine s_i (hq:=q_index_arr (n:=1) rfl rfl rfl rfl rfl (by omega) rfl) (h:=?_)|refine p_i (hq:=fun _=>q_index_arr (n:=1) rfl rfl rfl rfl rfl (by omega) rfl) (h:=?_)|(refine s_call (h1) (h:=?_))|(refine p_call (h1) (h:=?_))|(refine s_app (r:=out.map encMail) ?_ ?_ ?_ ?_ (h:=?_);(exact Z65_);(exact Z47_);(exact Z12_);(exact Z22_))|(refine s_app0R (r:=out.map encMail) ?_ ?_ ?_ ?_ (h:=?_);(exact Z65_);(exact Z47_);(exact Z12_);(exact Z22_))|(refine p_app (r:=out.map encMail) ?_ ?_ ?_ ?_ (h:=?_);(exact Z65_);(exact Z47_);(exact Z12_);(exact Z22_))|(refine s_app (r:=(out++[DMail.mk 1 b]).map encMail) ?_ ?_ ?_ ?_ (h:=?_);(exact Z65_);(exact Z47_);(exact Z12_);(exact Z22_))|(refine s_app0R (r:=(out++[DMail.mk 1 b]).map encMail) ?_ ?_ ?_ ?_ (h:=?_);(exact Z65_);(exact Z47_);(exact Z12_);(exact Z22_))|(refine p_app (r:=(out++[DMail.mk 1 b]).map encMail) ?_ ?_ ?_ ?_ (h:=?_);(exact Z65_);(exact Z47_);(exact Z12_);(exact Z22_))|(refine goI_ ?_;((repeat' first|exact True.intro|refine Two.mk ?_ ?_);all_goals intros))|refine s_i (h:=?_)|refine s_i (hq:=q_index_ro rfl rfl rfl (by first|exact lit0|exact lit1|exact lit2|exact lit3|rfl) (by simp only [List.length_cons,List.length_nil];omega) rfl rfl rfl rfl) (h:=?_)|refine p_i (h:=?_)|refine p_ih (h:=?_)|refine s_lit (h:=?_)|refine p_lit (h:=?_)|refine p_lit0 (h:=?_)|refine s_lit0 (h:=?_)|refine s_ixa (h:=?_)|refine s_insert (h:=?_)|(refine s_sadd rfl ?_ (h:=?_);(exact Z11_))|(refine p_sadd rfl ?_ (h:=?_);(exact Z11_))|fail "")
      all_goals first
        | (exact endwA_)
        | (exfalso;omega)
        | skip
    · rw [if_neg he] at hR
      obtain ⟨rfl,rfl⟩:=Prod.mk.inj hR
      rw [if_neg (by decide)]
      refine fn_of_run (by kernel_rfl) Tryz.func110 rfl (by kernel_rfl) ?_
      (repeat' first|refine s_i (hq:=q_index_arr (n:=1) rfl rfl rfl rfl rfl (by omega) rfl) (h:=?_)|refine p_i (hq:=fun _=>q_index_arr (n:=1) rfl rfl rfl rfl rfl (by omega) rfl) (h:=?_)|(refine s_call (h1) (h:=?_))|(refine p_call (h1) (h:=?_))|(refine goI_ ?_;((repeat' first|exact True.intro|refine Two.mk ?_ ?_);all_goals intros))|refine s_i (h:=?_)|refine s_i (hq:=q_index_ro rfl rfl rfl (by first|exact lit0|exact lit1|exact lit2|exact lit3|rfl) (by simp only [List.length_cons,List.length_nil];omega) rfl rfl rfl rfl) (h:=?_)|refine p_i (h:=?_)|refine p_ih (h:=?_)|refine s_lit (h:=?_)|refine p_lit (h:=?_)|refine p_lit0 (h:=?_)|refine s_lit0 (h:=?_)|refine s_ixa (h:=?_)|refine s_insert (h:=?_)|(refine s_sadd rfl ?_ (h:=?_);(exact Z11_))|(refine p_sadd rfl ?_ (h:=?_);(exact Z11_))|fail "")
      all_goals first
        | (exact endwA_)
        | (exfalso;omega)
        | skip
  · have h1:=h1 2
    rw [show (2:Int).toNat=2 from rfl] at hR
    rw [show gtTal (⟨sec,now,nxt,notes,ta0,ta1,ta2,ta3,rt,sh⟩:DGate) 2=ta2 from rfl] at h1 hR
    generalize tSend ta2 (b.length:Int)=T at *
    obtain ⟨t,e⟩:=T
    dsimp only at h1 hR
    by_cases he:e=0
    · subst he
      rw [if_pos rfl] at hR
      rw [show gtSetT (⟨sec,now,nxt,notes,ta0,ta1,ta2,ta3,rt,sh⟩:DGate) 2 t=(⟨sec,now,nxt,notes,ta0,ta1,t,ta3,rt,sh⟩:DGate) from rfl] at hR
      obtain ⟨rfl,rfl⟩:=Prod.mk.inj hR
      rw [if_pos rfl]
      refine fn_of_run (by kernel_rfl) Tryz.func110 rfl (by kernel_rfl) ?_
      (repeat' first|refine s_i (hq:=q_index_arr (n:=2) rfl rfl rfl rfl rfl (by omega) rfl) (h:=?_)|refine p_i (hq:=fun _=>q_index_arr (n:=2) rfl rfl rfl rfl rfl (by omega) rfl) (h:=?_)|(refine s_call (h1) (h:=?_))|(refine p_call (h1) (h:=?_))|(refine s_app (r:=out.map encMail) ?_ ?_ ?_ ?_ (h:=?_);(exact Z65_);(exact Z47_);(exact Z12_);(exact Z22_))|(refine s_app0R (r:=out.map encMail) ?_ ?_ ?_ ?_ (h:=?_);(exact Z65_);(exact Z47_);(exact Z12_);(exact Z22_))|(refine p_app (r:=out.map encMail) ?_ ?_ ?_ ?_ (h:=?_);(exact Z65_);(exact Z47_);(exact Z12_);(exact Z22_))|(refine s_app (r:=(out++[DMail.mk 2 b]).map encMail) ?_ ?_ ?_ ?_ (h:=?_);(exact Z65_);(exact Z47_);(exact Z12_);(exact Z22_))|(refine s_app0R (r:=(out++[DMail.mk 2 b]).map encMail) ?_ ?_ ?_ ?_ (h:=?_);(exact Z65_);(exact Z47_);(exact Z12_);(exact Z22_))|(refine p_app (r:=(out++[DMail.mk 2 b]).map encMail) ?_ ?_ ?_ ?_ (h:=?_);(exact Z65_);(exact Z47_);(exact Z12_);(exact Z22_))|(refine goI_ ?_;((repeat' first|exact True.intro|refine Two.mk ?_ ?_);all_goals intros))|refine s_i (h:=?_)|refine s_i (hq:=q_index_ro rfl rfl rfl (by first|exact lit0|exact lit1|exact lit2|exact lit3|rfl) (by simp only [List.length_cons,List.length_nil];omega) rfl rfl rfl rfl) (h:=?_)|refine p_i (h:=?_)|refine p_ih (h:=?_)|refine s_lit (h:=?_)|refine p_lit (h:=?_)|refine p_lit0 (h:=?_)|refine s_lit0 (h:=?_)|refine s_ixa (h:=?_)|refine s_insert (h:=?_)|(refine s_sadd rfl ?_ (h:=?_);(exact Z11_))|(refine p_sadd rfl ?_ (h:=?_);(exact Z11_))|fail "")
      all_goals first
        | (exact endwA_)
        | (exfalso;omega)
        | skip
    · rw [if_neg he] at hR
      obtain ⟨rfl,rfl⟩:=Prod.mk.inj hR
      rw [if_neg (by decide)]
      refine fn_of_run (by kernel_rfl) Tryz.func110 rfl (by kernel_rfl) ?_
      (repeat' first|refine s_i (hq:=q_index_arr (n:=2) rfl rfl rfl rfl rfl (by omega) rfl) (h:=?_)|refine p_i (hq:=fun _=>q_index_arr (n:=2) rfl rfl rfl rfl rfl (by omega) rfl) (h:=?_)|(refine s_call (h1) (h:=?_))|(refine p_call (h1) (h:=?_))|(refine goI_ ?_;((repeat' first|exact True.intro|refine Two.mk ?_ ?_);all_goals intros))|refine s_i (h:=?_)|refine s_i (hq:=q_index_ro rfl rfl rfl (by first|exact lit0|exact lit1|exact lit2|exact lit3|rfl) (by simp only [List.length_cons,List.length_nil];omega) rfl rfl rfl rfl) (h:=?_)|refine p_i (h:=?_)|refine p_ih (h:=?_)|refine s_lit (h:=?_)|refine p_lit (h:=?_)|refine p_lit0 (h:=?_)|refine s_lit0 (h:=?_)|refine s_ixa (h:=?_)|refine s_insert (h:=?_)|(refine s_sadd rfl ?_ (h:=?_);(exact Z11_))|(refine p_sadd rfl ?_ (h:=?_);(exact Z11_))|fail "")
      all_goals first
        | (exact endwA_)
        | (exfalso;omega)
        | skip
  · have h1:=h1 3
    rw [show (3:Int).toNat=3 from rfl] at hR
    rw [show gtTal (⟨sec,now,nxt,notes,ta0,ta1,ta2,ta3,rt,sh⟩:DGate) 3=ta3 from rfl] at h1 hR
    generalize tSend ta3 (b.length:Int)=T at *
    obtain ⟨t,e⟩:=T
    dsimp only at h1 hR
    by_cases he:e=0
    · subst he
      rw [if_pos rfl] at hR
      rw [show gtSetT (⟨sec,now,nxt,notes,ta0,ta1,ta2,ta3,rt,sh⟩:DGate) 3 t=(⟨sec,now,nxt,notes,ta0,ta1,ta2,t,rt,sh⟩:DGate) from rfl] at hR
      obtain ⟨rfl,rfl⟩:=Prod.mk.inj hR
      rw [if_pos rfl]
      refine fn_of_run (by kernel_rfl) Tryz.func110 rfl (by kernel_rfl) ?_
      (repeat' first|refine s_i (hq:=q_index_arr (n:=3) rfl rfl rfl rfl rfl (by omega) rfl) (h:=?_)|refine p_i (hq:=fun _=>q_index_arr (n:=3) rfl rfl rfl rfl rfl (by omega) rfl) (h:=?_)|(refine s_call (h1) (h:=?_))|(refine p_call (h1) (h:=?_))|(refine s_app (r:=out.map encMail) ?_ ?_ ?_ ?_ (h:=?_);(exact Z65_);(exact Z47_);(exact Z12_);(exact Z22_))|(refine s_app0R (r:=out.map encMail) ?_ ?_ ?_ ?_ (h:=?_);(exact Z65_);(exact Z47_);(exact Z12_);(exact Z22_))|(refine p_app (r:=out.map encMail) ?_ ?_ ?_ ?_ (h:=?_);(exact Z65_);(exact Z47_);(exact Z12_);(exact Z22_))|(refine s_app (r:=(out++[DMail.mk 3 b]).map encMail) ?_ ?_ ?_ ?_ (h:=?_);(exact Z65_);(exact Z47_);(exact Z12_);(exact Z22_))|(refine s_app0R (r:=(out++[DMail.mk 3 b]).map encMail) ?_ ?_ ?_ ?_ (h:=?_);(exact Z65_);(exact Z47_);(exact Z12_);(exact Z22_))|(refine p_app (r:=(out++[DMail.mk 3 b]).map encMail) ?_ ?_ ?_ ?_ (h:=?_);(exact Z65_);(exact Z47_);(exact Z12_);(exact Z22_))|(refine goI_ ?_;((repeat' first|exact True.intro|refine Two.mk ?_ ?_);all_goals intros))|refine s_i (h:=?_)|refine s_i (hq:=q_index_ro rfl rfl rfl (by first|exact lit0|exact lit1|exact lit2|exact lit3|rfl) (by simp only [List.length_cons,List.length_nil];omega) rfl rfl rfl rfl) (h:=?_)|refine p_i (h:=?_)|refine p_ih (h:=?_)|refine s_lit (h:=?_)|refine p_lit (h:=?_)|refine p_lit0 (h:=?_)|refine s_lit0 (h:=?_)|refine s_ixa (h:=?_)|refine s_insert (h:=?_)|(refine s_sadd rfl ?_ (h:=?_);(exact Z11_))|(refine p_sadd rfl ?_ (h:=?_);(exact Z11_))|fail "")
      all_goals first
        | (exact endwA_)
        | (exfalso;omega)
        | skip
    · rw [if_neg he] at hR
      obtain ⟨rfl,rfl⟩:=Prod.mk.inj hR
      rw [if_neg (by decide)]
      refine fn_of_run (by kernel_rfl) Tryz.func110 rfl (by kernel_rfl) ?_
      (repeat' first|refine s_i (hq:=q_index_arr (n:=3) rfl rfl rfl rfl rfl (by omega) rfl) (h:=?_)|refine p_i (hq:=fun _=>q_index_arr (n:=3) rfl rfl rfl rfl rfl (by omega) rfl) (h:=?_)|(refine s_call (h1) (h:=?_))|(refine p_call (h1) (h:=?_))|(refine goI_ ?_;((repeat' first|exact True.intro|refine Two.mk ?_ ?_);all_goals intros))|refine s_i (h:=?_)|refine s_i (hq:=q_index_ro rfl rfl rfl (by first|exact lit0|exact lit1|exact lit2|exact lit3|rfl) (by simp only [List.length_cons,List.length_nil];omega) rfl rfl rfl rfl) (h:=?_)|refine p_i (h:=?_)|refine p_ih (h:=?_)|refine s_lit (h:=?_)|refine p_lit (h:=?_)|refine p_lit0 (h:=?_)|refine s_lit0 (h:=?_)|refine s_ixa (h:=?_)|refine s_insert (h:=?_)|(refine s_sadd rfl ?_ (h:=?_);(exact Z11_))|(refine p_sadd rfl ?_ (h:=?_);(exact Z11_))|fail "")
      all_goals first
        | (exact endwA_)
        | (exfalso;omega)
        | skip
end Go.Proofs.YtendheafcbickaaGreat
