
import Derived.Test.YtendheafcbickaaGreatHGo
import Derived.Test.YtendheafcbickaaGreatHGtG
import Derived.Test.YtendheafcbickaaGreatHMg48
import Derived.Test.YtendheafcbickaaGreatHMg49
import Derived.Test.YtendheafcbickaaGreatHCellsU
set_option linter.unusedSimpArgs false
set_option linter.unusedVariables false
namespace Go.Proofs.YtendheafcbickaaGreat.gateAnswersUpto
open Go.ChangeShapes Go.WideShapes Go.ChangeAt Go.RowKit
set_option maxRecDepth 100000
attribute [local irreducible] Run RunL QStep GStep Fn Less PL FnM
theorem resWf (g:DGate) (id lane:Int) (b:List UInt8) (hu:U.wfGate g):(∀ i,wfTally (gtTal (gtAnsR g id lane b).1 i))∧(∀ y ∈ (gtAnsR g id lane b).1.Notes,wfNote y)∧(gtAnsR g id lane b).1.Notes.length≤3∧(gtAnsR g id lane b).2.1.length≤9:=by
  unfold gtAnsR
  split
  · rename_i h0
    obtain ⟨hJ,hL,hI3⟩:=gtChk h0 hu
    have hl3:=hL.k
    have hsame:∀ y ∈ g.Notes,wfNote y:=fun y hy=>W.wf_leNote _ ((hL.n y hy).wf (by omega))
    split
    · rename_i hx
      have hni:=hL.n _ (getD_mem hx)
      split
      · rename_i hwe
        have hW:=writeR_I (id:=lane) (b:=b) (fin:=true) hni.j hni.l hwe
        have hn2:∀ y ∈ g.Notes.set (ntIx (fun n=>decide (n.Id=id)) g.Notes) (ntCn (g.Notes.getD (ntIx (fun n=>decide (n.Id=id)) g.Notes) default) (cnWriteR (g.Notes.getD (ntIx (fun n=>decide (n.Id=id)) g.Notes) default).Conn lane b true).1),NI 4194304 y:=fun y hy=>by
          rcases List.mem_or_eq_of_mem_set hy with hy|hy
          · exact hL.n y hy
          · exact hy ▸ hni.cn hW.1 hW.2
        have hJ2:GJ (gtSetN g (ntIx (fun n=>decide (n.Id=id)) g.Notes) (ntCn (g.Notes.getD (ntIx (fun n=>decide (n.Id=id)) g.Notes) default) (cnWriteR (g.Notes.getD (ntIx (fun n=>decide (n.Id=id)) g.Notes) default).Conn lane b true).1)):=⟨hJ.s,hJ.n,hJ.x,hJ.t0,hJ.t1,hJ.t2,hJ.t3,hJ.h⟩
        have hfI:=gtFl_I (B:=4194304) (o:=[]) (by omega) hJ2 ⟨by (unfold gtSetN;dsimp only;rw [List.length_set];omega),hn2⟩
        exact ⟨fun i=>tOk_wf (hfI.1.tal i),fun y hy=>W.wf_leNote _ ((hfI.2.1.n y hy).wf (by omega)),hfI.2.1.k,by have:=hfI.2.2;simpa using this⟩
      · exact ⟨fun i=>tOk_wf (hJ.tal i),hsame,hl3,by simp⟩
    · exact ⟨fun i=>tOk_wf (hJ.tal i),hsame,hl3,by simp⟩
  · exact ⟨zeroTWf,zeroGWf,Nat.zero_le 3,by simp⟩
set_option maxHeartbeats 4000000 in
theorem law_fn (g:DGate) (id lane:Int) (b:List UInt8) (hu:U.wfGate g) (hb:b.length≤1048576):Fn Tryz.prog 3 [.agg (encGate g),.lit (.int .i64 id),.lit (.int .i64 lane),.ro (b.map encB)] (.lit (.bool true)):=by
  have g1:=gAnswer_fn g id lane b hu hb
  have g2:=gAnswered_fn g id lane b hu hb
  obtain ⟨q0,q1,q2,q3⟩:=resWf g id lane b hu
  have g5:=sameGate_refl _ q0 q1 (Nat.le_trans q2 (by omega))
  have g6:=sameMail_refl _ (Nat.le_trans q3 (by omega))
  clear hu q0 q1 q2 q3
  generalize gtAnsR g id lane b=x at *
  obtain ⟨x,l,e⟩:=x
  unfold encGm at g1 g2
  dsimp only at *
  refine fn_of_run (by kernel_rfl) Tryz.func3 rfl (by kernel_rfl) ?_
  (repeat' first|(refine s_call (g1) (h:=?_))|(refine p_call (g1) (h:=?_))|(refine s_call (g2) (h:=?_))|(refine p_call (g2) (h:=?_))|(refine s_call (g5) (h:=?_))|(refine p_call (g5) (h:=?_))|(refine s_call (g6) (h:=?_))|(refine p_call (g6) (h:=?_))|(refine go_ ?_;((repeat' first|exact True.intro|refine Two.mk ?_ ?_);all_goals intros))|fail "")
  all_goals first
    | exact ends_ (hr:=rfl)
    | (exfalso;simp at *;done)
    | skip
theorem walk (W:World) (v0:Value) (v1:Value) (v2:Value) (v3:Value) (h0:U.ArgIs Tryz.prog W 28 v0) (h1:U.ArgIs Tryz.prog W 3 v1) (h2:U.ArgIs Tryz.prog W 3 v2) (h3:U.ArgIs Tryz.prog W 29 v3) :
    Calls Tryz.prog 3 #[v0,v1,v2,v3] W fun e W'=>e = .returned (.bool true)∧Below W.heap.size W W':=by
  obtain ⟨c0,rfl,g0⟩:=h0.struct_ Tryz.underlying28
  obtain ⟨x0,r0,w0⟩:=U.rGate_of_cells _ g0
  obtain ⟨x1,rfl,w1⟩:=h1.int_ Tryz.underlying3
  replace w1:=i64_of_wf w1
  obtain ⟨x2,rfl,w2⟩:=h2.int_ Tryz.underlying3
  replace w2:=i64_of_wf w2
  obtain ⟨a3,n3,b3,rfl,g3⟩:=h3.slice_ Tryz.underlying29
  obtain ⟨x3,r3,w3,u3⟩:=U.rd_of_slice (enc:=encB) (wf:=fun _=>True) (size:=1) (bytes:=1) Tryz.underlying29 (by kernel_rfl) (by kernel_rfl) (by decide) (fun es h=>U.rdB_of_cells Tryz.underlying5 es h) g3
  exact law_of_fn (law_fn x0 x1 x2 x3 w0 (by omega)) (.cons (argv_agg r0) (.cons (argv_lit rfl) (.cons (argv_lit rfl) (.cons (argv_ro r3) (.nil)))))
set_option maxRecDepth 100000 in
theorem lifted (os:Os) (started:os.Started) (H:Type) (enc:TypeId×Value→H) (F:Stop.Interp) :
    ReturnsInHanded {} Tryz.checked os 3 .any ((Rows.OpenSpec.upto Rows.gateAnswersSpec).pre6 enc Tryz.prog Tryz.f3 Rows.gateAnswersUptoRow.domain false) (((Rows.OpenSpec.upto Rows.gateAnswersSpec).at F).post enc Tryz.prog Tryz.f3 false true false false):=
  U.law_lifted (C:=Tryz.checked) (s:=Rows.gateAnswersSpec) (by kernel_rfl) started (by kernel_rfl) Tryz.func3
    (OpenSpec.witness (enc:=enc) (C:=Tryz.checked) (s:=Rows.OpenSpec.upto Rows.gateAnswersSpec) (k:=Rows.uptoSmall) rfl false ⟨#[],#[.agg #[.int .u64 0,.int .i64 0,.int .i64 0,.slice none 0 0,.bool false,.int .i64 0,.int .i64 0,.bool false,.int .i64 0,.int .i64 0,.bool false,.int .i64 0,.int .i64 0,.bool false,.int .i64 0,.int .i64 0,.bool false,.int .i64 0],.int .i64 0,.int .i64 0,.slice none 0 0],[]⟩ 8 (by kernel_rfl) (by kernel_rfl) (by kernel_rfl)
      (x:=([.agg [.lit (.int .u64 0),.lit (.int .i64 0),.lit (.int .i64 0),.nil,.agg [.agg [.lit (.bool false),.lit (.int .i64 0),.lit (.int .i64 0)],.agg [.lit (.bool false),.lit (.int .i64 0),.lit (.int .i64 0)],.agg [.lit (.bool false),.lit (.int .i64 0),.lit (.int .i64 0)],.agg [.lit (.bool false),.lit (.int .i64 0),.lit (.int .i64 0)]],.lit (.bool false),.lit (.int .i64 0)],.lit (.int .i64 0),.lit (.int .i64 0),.nil],[],[])) (by kernel_rfl) rfl (by kernel_rfl))
    (by kernel_rfl) rfl (fun ds hd=>by
      match ds,hd with
      | [_,_,_,_],_=>rfl) rfl Tryz.underlying4 (by kernel_rfl)
    (fun W args h=>by
      rw [Tryz.params3] at h
      obtain ⟨v0,l0,e0,h0,r0⟩:=h
      obtain ⟨v1,l1,e1,h1,r1⟩:=r0
      obtain ⟨v2,l2,e2,h2,r2⟩:=r1
      obtain ⟨v3,l3,e3,h3,r3⟩:=r2
      have r3':l3=[]:=r3
      obtain rfl:args = #[v0,v1,v2,v3]:=by
        apply Array.toList_inj.1
        rw [e0,e1,e2,e3,r3']
      exact walk W v0 v1 v2 v3 h0 h1 h2 h3)
set_option maxHeartbeats 16000000 in
theorem closed:joinedFacts Tryz.pinned.checked.prog 3 Tryz.f3 ((Rows.OpenSpec.upto Rows.gateAnswersSpec).bare) Rows.gateAnswersUptoRow=true:=by
  unfold joinedFacts
  simp only [Bool.and_eq_true]
  repeat' apply And.intro
  all_goals decide +kernel
theorem over:Rows.gateAnswersUptoRow.holds Tryz.pinned (Rows.OpenSpec.upto Rows.gateAnswersSpec):=
  OpenClaim.holds_of_cond 3 Tryz.f3 rfl rfl rfl rfl rfl rfl rfl ⟨rfl,rfl,rfl,rfl,rfl⟩ rfl rfl rfl rfl rfl (by kernel_rfl) Tryz.func3 closed
    (of_decide_eq_true (by kernel_rfl)) (by unfold Func.isWrapper;first|(rw [if_pos (by decide +kernel)];kernel_rfl)|(rw [if_neg (by decide +kernel)];exact ⟨rfl,rfl⟩))
    (fun os started H enc _ F=>lifted os started H enc F)
theorem proved:Rows.GateAnswersUptoSaid:=over
#print axioms proved
end Go.Proofs.YtendheafcbickaaGreat.gateAnswersUpto
