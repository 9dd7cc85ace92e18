/-
  SEVERAL TEXTS IN ONE: each with its own comment.
-/
import Derived.Test.YtendheafcbickaaGreatHZip
import Derived.Test.YtendheafcbickaaGreatHGo
import Derived.Test.YtendheafcbickaaGreatHSameSpace
import Derived.Test.YtendheafcbickaaGreatHMg12
import Derived.Test.YtendheafcbickaaGreatHMg21
import Derived.Test.YtendheafcbickaaGreatHMg16
import Derived.DeepKeys
import Derived.Test.YtendheafcbickaaGreatHMg41
import Derived.Test.YtendheafcbickaaGreatRows
import Derived.WalkKit
import Derived.ProofKit
import Derived.WalkSpells
import Derived.WalkLawsBesides
import Derived.OpenShut
import Derived.ShutString
import Derived.ChangeOld
import Derived.Below
import Derived.SizedLaws
import Derived.Deep.Slices

set_option linter.unusedVariables false
set_option linter.unusedSimpArgs false
set_option linter.unusedVariables false
namespace Go.Proofs.YtendheafcbickaaGreat
set_option maxRecDepth 100000
attribute [local irreducible] Run RunL QStep GStep Fn Less PL FnM
set_option maxHeartbeats 4000000 in
theorem sameConn_refl (c:DConn) (hw:wfConn c):Fn Tryz.prog 24 [.agg (encConn c),.agg (encConn c)] (.lit (.bool true)):=by
  obtain ⟨w0,w1,w2,w3,w4,w5,w6,w7,w8,w9,w10,w11,w12,w13⟩:=hw
  have h1:=sameSpace_fn c.Space c.Space w0 w0
  have h2:=sameFrames_fn c.Queue c.Queue (by omega) (by omega) w10 w10
  rw [yes_of rfl] at h1 h2
  have hll:c.Lanes.length≤1000000000000000:=by omega
  clear w0 w1 w2 w3 w4 w5 w6 w9 w10 w11 w12 w13
  obtain ⟨b0,space,pace,flow,credit,ids,grant,opened,lanes,b1,queue,last,resets,b2,code⟩:=c
  dsimp only at *
  generalize hC:encConn ⟨b0,space,pace,flow,credit,ids,grant,opened,lanes,b1,queue,last,resets,b2,code⟩=C
  unfold encConn at hC
  dsimp only at hC
  subst hC
  refine fn_of_run (by kernel_rfl) Tryz.func24 rfl (by kernel_rfl) ?_
  refine r_seq ?_
  refine r_region ?_
  (repeat' first|(refine goS_ ?_;((repeat' first|exact True.intro|refine Two.mk ?_ ?_);all_goals intros))|fail "")
  refine thenQ_n ?_
  refine r_cut (fun _:Unit=>⟨[(2,.ptr 0 0 0 0),(3,.ptr 1 0 0 0),(5,.lit (.bool true))],[(0,some (.box 51 [.lit (.bool b0),.lit (.int .i64 space.Next),.ro (space.Sent.map encParcel),.lit (.int .i64 space.Top),.ro (space.Heard.map encRange),.ro (space.Skip.map encI),.lit (.int .i64 pace.Window),.lit (.int .i64 pace.Thresh),.lit (.int .i64 pace.Flying),.lit (.int .i64 pace.Since),.lit (.int .i64 flow.Max),.lit (.int .i64 flow.Used),.lit (.int .i64 credit.Max),.lit (.int .i64 credit.Used),.lit (.int .i64 ids),.lit (.int .i64 grant),.lit (.int .i64 opened),.ro (lanes.map encLane),.lit (.bool b1),.ro (queue.map encFrame),.lit (.int .i64 last),.lit (.int .i64 resets),.lit (.bool b2),.lit (.int .i64 code)])),(1,some (.box 51 [.lit (.bool b0),.lit (.int .i64 space.Next),.ro (space.Sent.map encParcel),.lit (.int .i64 space.Top),.ro (space.Heard.map encRange),.ro (space.Skip.map encI),.lit (.int .i64 pace.Window),.lit (.int .i64 pace.Thresh),.lit (.int .i64 pace.Flying),.lit (.int .i64 pace.Since),.lit (.int .i64 flow.Max),.lit (.int .i64 flow.Used),.lit (.int .i64 credit.Max),.lit (.int .i64 credit.Used),.lit (.int .i64 ids),.lit (.int .i64 grant),.lit (.int .i64 opened),.ro (lanes.map encLane),.lit (.bool b1),.ro (queue.map encFrame),.lit (.int .i64 last),.lit (.int .i64 resets),.lit (.bool b2),.lit (.int .i64 code)]))],2,Tryz.f24.ntmps⟩) (fun _=>True) ?_ ?_
  · cases b0 <;> cases b1 <;> cases b2
    all_goals (repeat' first|(refine s_call (h1) (h:=?_))|(refine p_call (h1) (h:=?_))|(refine s_call (h2) (h:=?_))|(refine p_call (h2) (h:=?_))|(refine go_ ?_;((repeat' first|exact True.intro|refine Two.mk ?_ ?_);all_goals intros))|fail "")
    all_goals first
      | (refine ⟨(),?_,?_⟩;rotate_left 1;(exact lessA_);(exact Z68_))
      | skip
  rintro ⟨⟩ -
  clear h1 h2
  (repeat' first|(refine go_ ?_;((repeat' first|exact True.intro|refine Two.mk ?_ ?_);all_goals intros))|fail "")
  refine r_for (fun k:Nat=>⟨[(2,.ptr 0 0 0 0),(3,.ptr 1 0 0 0),(5,.lit (.bool true)),(6,.lit (.int .i64 k))],[(0,some (.box 51 [.lit (.bool b0),.lit (.int .i64 space.Next),.ro (space.Sent.map encParcel),.lit (.int .i64 space.Top),.ro (space.Heard.map encRange),.ro (space.Skip.map encI),.lit (.int .i64 pace.Window),.lit (.int .i64 pace.Thresh),.lit (.int .i64 pace.Flying),.lit (.int .i64 pace.Since),.lit (.int .i64 flow.Max),.lit (.int .i64 flow.Used),.lit (.int .i64 credit.Max),.lit (.int .i64 credit.Used),.lit (.int .i64 ids),.lit (.int .i64 grant),.lit (.int .i64 opened),.ro (lanes.map encLane),.lit (.bool b1),.ro (queue.map encFrame),.lit (.int .i64 last),.lit (.int .i64 resets),.lit (.bool b2),.lit (.int .i64 code)])),(1,some (.box 51 [.lit (.bool b0),.lit (.int .i64 space.Next),.ro (space.Sent.map encParcel),.lit (.int .i64 space.Top),.ro (space.Heard.map encRange),.ro (space.Skip.map encI),.lit (.int .i64 pace.Window),.lit (.int .i64 pace.Thresh),.lit (.int .i64 pace.Flying),.lit (.int .i64 pace.Since),.lit (.int .i64 flow.Max),.lit (.int .i64 flow.Used),.lit (.int .i64 credit.Max),.lit (.int .i64 credit.Used),.lit (.int .i64 ids),.lit (.int .i64 grant),.lit (.int .i64 opened),.ro (lanes.map encLane),.lit (.bool b1),.ro (queue.map encFrame),.lit (.int .i64 last),.lit (.int .i64 resets),.lit (.bool b2),.lit (.int .i64 code)]))],2,Tryz.f24.ntmps⟩)
    (fun k=>k≤lanes.length) (fun k=>lanes.length - k) 0 (Nat.zero_le _) (by (exact lessA_)) ?_
  intro k hk
  by_cases hkn:k<lanes.length
  · have hf:=w8 _ (getD_mem hkn)
    have q1:=hf.2.2.2.2.2.2.1
    have q2:=hf.2.2.2.2.2.2.2.2.1
    have h1:=sameGather_fn _ _ hf.2.1 hf.2.1
    have h2:=sameBytes_fn (lanes.getD k default).Read (lanes.getD k default).Read
    have h3:=sameSender_refl (lanes.getD k default).Out q1 q2
    rw [yes_of rfl] at h1 h2
    clear hf w8
    cases hb1:(lanes.getD k default).Over <;> cases hb2:(lanes.getD k default).Cut
    all_goals (repeat' first|(refine s_call (h1) (h:=?_))|(refine p_call (h1) (h:=?_))|(refine s_call (h2) (h:=?_))|(refine p_call (h2) (h:=?_))|(refine s_call (h3) (h:=?_))|(refine p_call (h3) (h:=?_))|(refine go_ ?_;((repeat' first|exact True.intro|refine Two.mk ?_ ?_);all_goals intros))|fail "")
    all_goals first
      | (refine ⟨k+1,?_,?_,?_⟩;rotate_left 2;(exact lessA_);(exact Z69_);(exact Z67_))
      | skip
  · have hkl:k=lanes.length:=by omega
    subst hkl
    (repeat' first|(refine go_ ?_;((repeat' first|exact True.intro|refine Two.mk ?_ ?_);all_goals intros))|fail "")
    all_goals exact ends_ (hr:=rfl)
end Go.Proofs.YtendheafcbickaaGreat


set_option linter.unusedSimpArgs false
set_option linter.unusedVariables false
namespace Go.Proofs.YtendheafcbickaaGreat
open Go.RowKit
theorem lits_inv {ρ:Nat→Option Value} {S:Nat→Prop} {w:World} {us:List Value} {u:Value} (h:VRel ρ S w (.agg (us.map V.lit)) u):u = .agg us.toArray:=by
  obtain ⟨vs,rfl,e2,e3⟩:=agg_inv h
  congr 1
  rw [List.length_map] at e2 e3
  refine Array.ext (by simpa using e2) (fun i h1 h2=>?_)
  have h3:=e3 i (by omega)
  have e:cAt (us.map V.lit) i = .lit (us[i]'(by omega)):=by unfold cAt;rw [List.getD_eq_getElem?_getD,List.getElem?_map,List.getElem?_eq_getElem (by omega)];rfl
  rw [e] at h3
  have h4:=lit_inv h3
  rw [Array.getD_eq_getD_getElem?,Array.getElem?_eq_getElem h1] at h4
  simpa using h4
theorem q_arr_refl {P:Program} {G:List Nat} {o:Oper} {st:St} {T yt:TypeId} {x y:Operand} {us:List Value} {la:List Lit} (ho:o.op = .binOp .eql T x y yt) (hx:opE st.env x=some (.agg (us.map V.lit))) (hy:opE st.env y=some (.agg (us.map V.lit)))
    (hm:P.eqGuardType P.depth T=false) (hk:P.keyTypeAt 5 T=true) (hf:(Value.agg us.toArray).formed P T=true) (hl:P.keyLits 5 T us=some la):QStep P G o st (.lit (.bool true)):=
  q_of_run fun F base w0 ρ a w hH hE=>by
    refine ⟨_,.pure (.lit _ rfl),fun w'=>?_⟩
    have e1:=lits_inv (opE_sound hE hx)
    have e2:=lits_inv (opE_sound hE hy)
    unfold execOp;rw [ho];simp only [];rw [e1,e2]
    have h1:=run_eqGuard_agg (P:=P) w' .eql T x y us.toArray us.toArray hm
    have h2:=run_eql_struct (P:=P) w' T us.toArray us.toArray
    obtain ⟨r,hr,hiff⟩:=run_equalIn_deep 9995 5 T hk w' 5 5 (.agg us.toArray) (.agg us.toArray) la la hf hf (by simpa [Value.cells] using hl) (by simpa [Value.cells] using hl)
    rw [show (10000:Nat)=9995+5 from rfl,hr,hiff.2 rfl] at h2
    simp only [Sem.run_bind,h1,Result.andThen_ok,h2,Sem.run_pure]
end Go.Proofs.YtendheafcbickaaGreat


set_option linter.unusedVariables false
set_option linter.unusedSimpArgs false
set_option linter.unusedVariables false
namespace Go.Proofs.YtendheafcbickaaGreat
set_option maxRecDepth 100000
attribute [local irreducible] Run RunL QStep GStep Fn Less PL FnM
theorem i64_lit {z:Int} (h:I64 z):(Lit.int .i64 z).wf=true:=by
  unfold I64 at h
  unfold Lit.wf
  rw [Bool.and_eq_true,decide_eq_true_eq,decide_eq_true_eq]
  show (-9223372036854775808:Int)≤z∧z≤9223372036854775807
  omega
noncomputable def talFs:Array Field:=match Tryz.prog.underlying 25 with|some (.struct fs)=>fs|_=>#[]
theorem key_bool {d:Nat} {t:TypeId} (b:Bool) (h:Tryz.prog.underlying t=some .bool):Tryz.prog.keyLits (d+1) t [.bool b]=some [.bool b]:=by
  unfold Program.keyLits
  rw [h]
theorem key_int {d:Nat} {t:TypeId} (z:Int) (h:Tryz.prog.underlying t=some (.int .i64)) (hz:(Lit.int .i64 z).wf=true):Tryz.prog.keyLits (d+1) t [.int .i64 z]=some [.int .i64 z]:=by
  unfold Program.keyLits
  rw [h]
  exact if_pos ⟨rfl,hz⟩
theorem key_tal {d:Nat} (b:Bool) (x y:Int) (hx:(Lit.int .i64 x).wf=true) (hy:(Lit.int .i64 y).wf=true):Tryz.prog.keyLits (d+2) 25 [.bool b,.int .i64 x,.int .i64 y]=some [.bool b,.int .i64 x,.int .i64 y]:=by
  have hl:talFs.toList=[talFs.getD 0 default,talFs.getD 1 default,talFs.getD 2 default]:=by kernel_rfl
  have e0:Tryz.prog.keyLits (d+1) (talFs.getD 0 default).type ((([.bool b,.int .i64 x,.int .i64 y]:List Value).drop (talFs.getD 0 default).offset).take (Tryz.prog.cellsOf (talFs.getD 0 default).type))=some [.bool b]:=key_bool b (by kernel_rfl)
  have e1:Tryz.prog.keyLits (d+1) (talFs.getD 1 default).type ((([.bool b,.int .i64 x,.int .i64 y]:List Value).drop (talFs.getD 1 default).offset).take (Tryz.prog.cellsOf (talFs.getD 1 default).type))=some [.int .i64 x]:=key_int x (by kernel_rfl) hx
  have e2:Tryz.prog.keyLits (d+1) (talFs.getD 2 default).type ((([.bool b,.int .i64 x,.int .i64 y]:List Value).drop (talFs.getD 2 default).offset).take (Tryz.prog.cellsOf (talFs.getD 2 default).type))=some [.int .i64 y]:=key_int y (by kernel_rfl) hy
  unfold Program.keyLits
  rw [show Tryz.prog.underlying 25 = some (.struct talFs) from by kernel_rfl]
  dsimp only
  rw [if_pos ⟨by kernel_rfl,by kernel_rfl⟩,hl]
  simp only [List.mapM_cons,List.mapM_nil,e0,e1,e2]
  rfl
theorem key_arr (t:Nat→DTally) (ht:∀ i,wfTally (t i)):Tryz.prog.keyLits 5 26 [.bool (t 0).Known,.int .i64 (t 0).Got,.int .i64 (t 0).Sent,.bool (t 1).Known,.int .i64 (t 1).Got,.int .i64 (t 1).Sent,.bool (t 2).Known,.int .i64 (t 2).Got,.int .i64 (t 2).Sent,.bool (t 3).Known,.int .i64 (t 3).Got,.int .i64 (t 3).Sent] =
    some [.bool (t 0).Known,.int .i64 (t 0).Got,.int .i64 (t 0).Sent,.bool (t 1).Known,.int .i64 (t 1).Got,.int .i64 (t 1).Sent,.bool (t 2).Known,.int .i64 (t 2).Got,.int .i64 (t 2).Sent,.bool (t 3).Known,.int .i64 (t 3).Got,.int .i64 (t 3).Sent]:=by
  have e:=fun i=>key_tal (d:=2) (t i).Known (t i).Got (t i).Sent (i64_lit (ht i).1) (i64_lit (ht i).2)
  have e0:=e 0
  have e1:=e 1
  have e2:=e 2
  have e3:=e 3
  unfold Program.keyLits
  rw [show Tryz.prog.underlying 26 = some (.array 4 25) from by kernel_rfl]
  dsimp only
  rw [if_pos (by kernel_rfl),show List.range 4=[0,1,2,3] from rfl,show Tryz.prog.cellsOf 25 = 3 from by kernel_rfl]
  simp only [List.mapM_cons,List.mapM_nil,Nat.zero_mul,Nat.one_mul,Nat.reduceMul,List.drop_succ_cons,List.drop_zero,List.take_succ_cons,List.take_zero,e0,e1,e2,e3]
  rfl
set_option maxHeartbeats 4000000 in
theorem sameGate_refl (g:DGate) (hT:∀ i,wfTally (gtTal g i)) (hw:∀ y ∈ g.Notes,wfNote y) (hl:g.Notes.length≤1000000):Fn Tryz.prog 12 [.agg (encGate g),.agg (encGate g)] (.lit (.bool true)):=by
  have hkl:=key_arr (gtTal g) hT
  clear hT
  generalize hZ:encGate g=Z
  unfold encGate at hZ
  subst hZ
  refine fn_of_run (by kernel_rfl) Tryz.func12 rfl (by kernel_rfl) ?_
  refine r_seq ?_
  refine r_region ?_
  (repeat' first|(refine goS_ ?_;((repeat' first|exact True.intro|refine Two.mk ?_ ?_);all_goals intros))|fail "")
  refine thenQ_n ?_
  refine r_cut (fun _:Unit=>⟨[(2,.ptr 0 0 0 0),(3,.ptr 1 0 0 0),(5,.lit (.bool true))],[(0,some (.box 28 [.lit (.int .u64 g.Secret),.lit (.int .i64 g.Now),.lit (.int .i64 g.Next),.ro (g.Notes.map encNote),.lit (.bool g.Tally0.Known),.lit (.int .i64 g.Tally0.Got),.lit (.int .i64 g.Tally0.Sent),.lit (.bool g.Tally1.Known),.lit (.int .i64 g.Tally1.Got),.lit (.int .i64 g.Tally1.Sent),.lit (.bool g.Tally2.Known),.lit (.int .i64 g.Tally2.Got),.lit (.int .i64 g.Tally2.Sent),.lit (.bool g.Tally3.Known),.lit (.int .i64 g.Tally3.Got),.lit (.int .i64 g.Tally3.Sent),.lit (.bool g.Retry),.lit (.int .i64 g.Shed)])),(1,some (.box 28 [.lit (.int .u64 g.Secret),.lit (.int .i64 g.Now),.lit (.int .i64 g.Next),.ro (g.Notes.map encNote),.lit (.bool g.Tally0.Known),.lit (.int .i64 g.Tally0.Got),.lit (.int .i64 g.Tally0.Sent),.lit (.bool g.Tally1.Known),.lit (.int .i64 g.Tally1.Got),.lit (.int .i64 g.Tally1.Sent),.lit (.bool g.Tally2.Known),.lit (.int .i64 g.Tally2.Got),.lit (.int .i64 g.Tally2.Sent),.lit (.bool g.Tally3.Known),.lit (.int .i64 g.Tally3.Got),.lit (.int .i64 g.Tally3.Sent),.lit (.bool g.Retry),.lit (.int .i64 g.Shed)]))],2,Tryz.f12.ntmps⟩) (fun _=>True) ?_ ?_
  · cases hr:g.Retry
    all_goals (repeat' first|refine s_i (hq:=q_arr_refl (us:=[.bool g.Tally0.Known,.int .i64 g.Tally0.Got,.int .i64 g.Tally0.Sent,.bool g.Tally1.Known,.int .i64 g.Tally1.Got,.int .i64 g.Tally1.Sent,.bool g.Tally2.Known,.int .i64 g.Tally2.Got,.int .i64 g.Tally2.Sent,.bool g.Tally3.Known,.int .i64 g.Tally3.Got,.int .i64 g.Tally3.Sent]) (la:=[.bool g.Tally0.Known,.int .i64 g.Tally0.Got,.int .i64 g.Tally0.Sent,.bool g.Tally1.Known,.int .i64 g.Tally1.Got,.int .i64 g.Tally1.Sent,.bool g.Tally2.Known,.int .i64 g.Tally2.Got,.int .i64 g.Tally2.Sent,.bool g.Tally3.Known,.int .i64 g.Tally3.Got,.int .i64 g.Tally3.Sent]) rfl rfl rfl (by kernel_rfl) (by kernel_rfl) (by kernel_rfl) hkl) (h:=?_)|(refine goI_ ?_;((repeat' first|exact True.intro|refine Two.mk ?_ ?_);all_goals intros))|refine s_i (h:=?_)|refine s_i (hq:=q_index_ro rfl rfl rfl (by first|exact lit0|exact lit1|exact lit2|exact lit3|rfl) (by simp only [List.length_cons,List.length_nil];omega) rfl rfl rfl rfl) (h:=?_)|refine p_i (h:=?_)|refine p_ih (h:=?_)|refine s_lit (h:=?_)|refine p_lit (h:=?_)|refine p_lit0 (h:=?_)|refine s_lit0 (h:=?_)|refine s_ixa (h:=?_)|refine s_insert (h:=?_)|(refine s_sadd rfl ?_ (h:=?_);(exact Z11_))|(refine p_sadd rfl ?_ (h:=?_);(exact Z11_))|fail "")
    all_goals first
      | (refine ⟨(),?_,?_⟩;rotate_left 1;(exact lessA_);(exact Z68_))
      | skip
  rintro ⟨⟩ -
  (repeat' first|(refine go_ ?_;((repeat' first|exact True.intro|refine Two.mk ?_ ?_);all_goals intros))|fail "")
  refine r_for (fun k:Nat=>⟨[(2,.ptr 0 0 0 0),(3,.ptr 1 0 0 0),(5,.lit (.bool true)),(6,.lit (.int .i64 k))],[(0,some (.box 28 [.lit (.int .u64 g.Secret),.lit (.int .i64 g.Now),.lit (.int .i64 g.Next),.ro (g.Notes.map encNote),.lit (.bool g.Tally0.Known),.lit (.int .i64 g.Tally0.Got),.lit (.int .i64 g.Tally0.Sent),.lit (.bool g.Tally1.Known),.lit (.int .i64 g.Tally1.Got),.lit (.int .i64 g.Tally1.Sent),.lit (.bool g.Tally2.Known),.lit (.int .i64 g.Tally2.Got),.lit (.int .i64 g.Tally2.Sent),.lit (.bool g.Tally3.Known),.lit (.int .i64 g.Tally3.Got),.lit (.int .i64 g.Tally3.Sent),.lit (.bool g.Retry),.lit (.int .i64 g.Shed)])),(1,some (.box 28 [.lit (.int .u64 g.Secret),.lit (.int .i64 g.Now),.lit (.int .i64 g.Next),.ro (g.Notes.map encNote),.lit (.bool g.Tally0.Known),.lit (.int .i64 g.Tally0.Got),.lit (.int .i64 g.Tally0.Sent),.lit (.bool g.Tally1.Known),.lit (.int .i64 g.Tally1.Got),.lit (.int .i64 g.Tally1.Sent),.lit (.bool g.Tally2.Known),.lit (.int .i64 g.Tally2.Got),.lit (.int .i64 g.Tally2.Sent),.lit (.bool g.Tally3.Known),.lit (.int .i64 g.Tally3.Got),.lit (.int .i64 g.Tally3.Sent),.lit (.bool g.Retry),.lit (.int .i64 g.Shed)]))],2,Tryz.f12.ntmps⟩) (fun k=>k≤g.Notes.length) (fun k=>g.Notes.length - k) 0 (Nat.zero_le _) (by (exact lessA_)) ?_
  intro k hk
  by_cases hkn:k<g.Notes.length
  · have h1:=sameConn_refl (g.Notes.getD k default).Conn (hw _ (getD_mem hkn)).2.2.2.2
    cases hb1:(g.Notes.getD k default).Ready
    all_goals (repeat' first|(refine s_call (h1) (h:=?_))|(refine p_call (h1) (h:=?_))|(refine go_ ?_;((repeat' first|exact True.intro|refine Two.mk ?_ ?_);all_goals intros))|fail "")
    all_goals first
      | (refine ⟨k+1,?_,?_,?_⟩;rotate_left 2;(exact lessA_);(exact Z69_);(exact Z67_))
      | skip
  · have hkl:k=g.Notes.length:=by omega
    subst hkl
    (repeat' first|(refine go_ ?_;((repeat' first|exact True.intro|refine Two.mk ?_ ?_);all_goals intros))|fail "")
    all_goals first
      | exact ends_ (hr:=rfl)
      | skip
set_option maxHeartbeats 2000000 in
theorem sameMail_refl (l:List DMail) (hl:l.length≤1000):Fn Tryz.prog 13 [.ro (l.map encMail),.ro (l.map encMail)] (.lit (.bool true)):=by
  refine fn_of_run (by kernel_rfl) Tryz.func13 rfl (by kernel_rfl) ?_
  (repeat' first|(refine go_ ?_;((repeat' first|exact True.intro|refine Two.mk ?_ ?_);all_goals intros))|fail "")
  all_goals try (exfalso;omega)
  refine r_for (fun k:Nat=>⟨[(0,.ro (l.map encMail)),(1,.ro (l.map encMail)),(5,.lit (.bool true)),(6,.lit (.int .i64 k))],[],0,Tryz.f13.ntmps⟩)
    (fun k=>k≤l.length) (fun k=>l.length - k) 0 (Nat.zero_le _) less_to ?_
  intro k hk
  by_cases hkn:k<l.length
  · have h2:=sameBytes_fn (l.getD k default).Data (l.getD k default).Data
    rw [yes_of rfl] at h2
    (repeat' first|(refine s_call (h2) (h:=?_))|(refine p_call (h2) (h:=?_))|(refine go_ ?_;((repeat' first|exact True.intro|refine Two.mk ?_ ?_);all_goals intros))|fail "")
    all_goals first
      | (refine ⟨k+1,?_,?_,?_⟩;rotate_left 2;(exact lessA_);(exact Z69_);(exact Z67_))
      | skip
  · (repeat' first|(refine go_ ?_;((repeat' first|exact True.intro|refine Two.mk ?_ ?_);all_goals intros))|fail "")
    all_goals first
      | exact ends_ (hr:=rfl)
      | skip
theorem zeroTWf (i:Nat):wfTally (gtTal default i):=by
  match i with
  | 0|1|2|n+3=>exact (show I64 0∧I64 0 from by unfold I64;decide)
theorem zeroGWf:∀ y ∈ (default:DGate).Notes,wfNote y:=fun y hy=>by cases hy
end Go.Proofs.YtendheafcbickaaGreat


set_option linter.unusedSimpArgs false
set_option linter.unusedVariables false
namespace Go.Proofs.YtendheafcbickaaGreat
open Go.ChangeShapes Go.WideShapes Go.ChangeAt Go.RowKit Go.Deep
def Cells (P:Program) (W:World) (t:TypeId) (cs:List Value):Prop:=
  ∃ (H:Type) (enc:TypeId×Value→H) (fuel:Nat) (x:DataW H×List MemPlace),
    DataW.trod enc P W 0 (fun _=>true) true fuel t cs=some x ∧ ∀ n ∈ x.1.weights P t,n≤reachBytes
def ArgIs (P:Program) (W:World) (t:TypeId) (v:Value):Prop:=
  (∃ base,Value.okWide P W .any base t v)∧Cells P W t v.cells.toList
def ArgsAre (P:Program) (W:World):List TypeId→List Value→Prop
  | [],vs=>vs=[]
  | t :: ts,vs=>∃ v vs',vs=v :: vs' ∧ ArgIs P W t v∧ArgsAre P W ts vs'
section
variable {P:Program} {W:World} {t e:TypeId} {v:Value} {cs:List Value}
end
theorem trodAll_below {H:Type} {enc:TypeId×Value→H} {P:Program} (hl:laidOutB P=true) {W W':World} (hb:Below W.heap.size W W') :
    ∀ {ts:List TypeId} {vs:List Value} {ds:List (DataW H)} {ps:List MemPlace},(∀ t ∈ ts,P.readableRec t=true∧t<P.types.size) →
      DataW.TrodAll enc P W 0 (fun _=>true) true ts vs ds ps→DataW.TrodAll enc P W' 0 (fun b=>decide (b<W.heap.size)) true ts vs ds ps
  | [],vs,ds,ps,_,h=>by cases vs <;> cases ds <;> simp_all [DataW.TrodAll]
  | t :: ts,vs,ds,ps,hr,h=>by
    obtain ⟨v,vs',d,ds',p,q,rfl,rfl,rfl,h1,h2⟩:=trodAll_cons h
    have hlt:∀ x ∈ p,x.block<W.heap.size:=by
      obtain ⟨m,hm⟩:=h1
      exact DataW.trod_lt m _ _ _ hm
    exact trodAll_cons_mk (Below.trod hl (hr t (by simp)).1 (hr t (by simp)).2 h1 hb hlt) (trodAll_below hl hb (fun t' ht=>hr t' (by simp [ht])) h2)
end Go.Proofs.YtendheafcbickaaGreat
