/-
  GateTicks: gate.Tick answers what P19.7 says, within the bound of the second form.
-/
import Derived.Test.YtendheafcbickaaGreatTZip
import Derived.Test.YtendheafcbickaaGreatTGo
import Derived.Test.YtendheafcbickaaGreatTGtG
import Derived.Test.YtendheafcbickaaGreatTMg47
import Derived.Test.YtendheafcbickaaGreatTCells
import Derived.Test.YtendheafcbickaaGreatTCellsU
set_option linter.unusedVariables false
set_option linter.unusedSimpArgs false
set_option maxHeartbeats 16000000
namespace Go.Proofs.YtendheafcbickaaGreat.gateTicksUpto
open Go.ChangeShapes Go.WideShapes Go.ChangeAt Go.RowKit
set_option maxRecDepth 100000
attribute [local irreducible] cq a8 bw GStep Fn cu bk cU
theorem Ob (g:cl) (n:Int) (hu:bR.iT g):(∀ i,gL (fy (o1 g n).1 i))/\(∀ y ∈ (o1 g n).1.bb,hY y)/\(o1 g n).1.bb.length<=3/\(o1 g n).2.1.length<=9:=by
 unfold o1
 split
 ·rename_i af
  obtain ⟨gh,dx,ud⟩:=CG af hu
  have Hj:=gh.n
  have l8:=dx.k
  split
  ·rename_i hn
   have pZ:∀ y ∈ g.bb.map (fD (g.b4+n)),jQ 4194304 y:=fun y ai=>by
    obtain ⟨z,bh,rfl⟩:=List.mem_map.1 ai
    exact CH (dx.n z bh) (CI af (by omega) bh)
   have p0:iu (gq (kw g (g.b4+n)) (g.bb.map (fD (g.b4+n)))):=⟨gh.s,(by unfold gq kw;dsimp only;omega),gh.x,gh.t0,gh.t1,gh.t2,gh.t3,gh.h⟩
   have Hk:(g.bb.map (fD (g.b4+n))).length=g.bb.length:=List.length_map ..
   have nT:=CJ (B:=4194304) (o:=[]) (by omega) p0 ⟨by(unfold gq;dsimp only;omega),pZ⟩
   exact⟨fun i=>Cg (nT.1.Ch i),fun y ai=>W.vI _ ((nT.2.1.n y ai).wf (by omega)),nT.2.1.k,by have:=nT.2.2;simpa using this⟩
  ·exact⟨Hl,Hm,Nat.zero_le 3,by simp⟩
 ·exact⟨Hl,Hm,Nat.zero_le 3,by simp⟩
theorem Oc (g:cl) (n:Int) (hu:bR.iT g):Fn Tryz.prog 4 [.agg (fU g),.lit (.int .i64 n)] (.lit (.bool true)):=by
 have g1:=Od g n hu
 have g2:=Oe g n hu
 obtain ⟨Ho,aT,a1,bz⟩:=Ob g n hu
 have g5:=Of _ Ho aT (Nat.le_trans a1 (by omega))
 have g6:=Og _ (Nat.le_trans bz (by omega))
 clear hu Ho aT a1 bz
 generalize o1 g n=x at *
 obtain ⟨x,l,e⟩:=x
 unfold vJ at g1 g2
 dsimp only at *
 refine aU ae Tryz.func4 rfl ae ?_
 (repeat' first|(refine ar (g1) (h:=?_))|(refine au (g1) (h:=?_))|(refine ar (g2) (h:=?_))|(refine au (g2) (h:=?_))|(refine ar (g5) (h:=?_))|(refine au (g5) (h:=?_))|(refine ar (g6) (h:=?_))|(refine au (g6) (h:=?_))|(refine ab ?_;((repeat' first|exact True.intro|refine R.mk ?_ ?_);all_goals intros))|fail "")
 all_goals first
  | exact bt (hr:=rfl)
  | (exfalso;simp at *;done)
  | skip
theorem walk (W:World) (v0:Value) (v1:Value) (af:bR.jR Tryz.prog W 28 v0) (I:bR.jR Tryz.prog W 3 v1) :
  Calls Tryz.prog 4 #[v0,v1] W fun e nU=>e = .returned (.bool true)/\Below W.heap.size W nU:=by
 obtain ⟨aS,rfl,g0⟩:=af.gV Tryz.underlying28
 obtain ⟨dO,CK,w0⟩:=bR.Oh _ g0
 obtain ⟨ek,rfl,cy⟩:=I.cP Tryz.underlying3
 replace cy:=db cy
 exact Oi (Oc dO ek w0) (.cons (Oj CK) (.cons (Ol rfl) (.nil)))
set_option maxRecDepth 100000 in
theorem lifted (os:Os) (started:os.Started) (H:Type) (enc:TypeId×Value->H) (F:Stop.Interp) :
  ReturnsInHanded {} Tryz.checked os 4 .any ((Rows.OpenSpec.upto Rows.gateTicksSpec).pre6 enc Tryz.prog Tryz.f4 Rows.gateTicksUptoRow.domain false) (((Rows.OpenSpec.upto Rows.gateTicksSpec).at F).post enc Tryz.prog Tryz.f4 false true false false):=
 bR.Hp (C:=Tryz.checked) (s:=Rows.gateTicksSpec) ae started ae Tryz.func4
  (OpenSpec.witness (enc:=enc) (C:=Tryz.checked) (s:=Rows.OpenSpec.upto Rows.gateTicksSpec) (k:=Rows.uptoSmall) rfl false ⟨#[],#[.agg #[.int .u64 0,.int .i64 0,.int .i64 0,.slice none 0 0,.bool false,.int .i64 0,.int .i64 0,.bool false,.int .i64 0,.int .i64 0,.bool false,.int .i64 0,.int .i64 0,.bool false,.int .i64 0,.int .i64 0,.bool false,.int .i64 0],.int .i64 0],[]⟩ 8 ae ae ae
   (x:=([.agg [.lit (.int .u64 0),.lit (.int .i64 0),.lit (.int .i64 0),.nil,.agg [.agg [.lit (.bool false),.lit (.int .i64 0),.lit (.int .i64 0)],.agg [.lit (.bool false),.lit (.int .i64 0),.lit (.int .i64 0)],.agg [.lit (.bool false),.lit (.int .i64 0),.lit (.int .i64 0)],.agg [.lit (.bool false),.lit (.int .i64 0),.lit (.int .i64 0)]],.lit (.bool false),.lit (.int .i64 0)],.lit (.int .i64 0)],[],[])) ae rfl ae)
  ae rfl (fun ds hd=>by
   match ds,hd with
   | [_,_],_=>rfl) rfl Tryz.underlying4 ae
  (fun W args h=>by
   rw[Tryz.params4] at h
   obtain ⟨v0,WT,b8,af,CK⟩:=h
   obtain ⟨v1,iA,aH,I,CL⟩:=CK
   have Om:iA=[]:=CL
   obtain rfl:args = #[v0,v1]:=by
    apply Array.toList_inj.1
    rw[b8,aH,Om]
   exact walk W v0 v1 af I)
theorem closed:joinedFacts Tryz.pinned.checked.prog 4 Tryz.f4 ((Rows.OpenSpec.upto Rows.gateTicksSpec).bare) Rows.gateTicksUptoRow=true:=by
 unfold joinedFacts
 simp only[Bool.and_eq_true]
 repeat' apply And.intro
 all_goals decide +kernel
theorem On:Rows.gateTicksUptoRow.holds Tryz.pinned (Rows.OpenSpec.upto Rows.gateTicksSpec):=
 OpenClaim.holds_of_cond 4 Tryz.f4 rfl rfl rfl rfl rfl rfl rfl ⟨rfl,rfl,rfl,rfl,rfl⟩ rfl rfl rfl rfl rfl ae Tryz.func4 closed
  (of_decide_eq_true ae) (by unfold Func.isWrapper;first|(rw[if_pos (by decide +kernel)];kernel_rfl)|(rw[if_neg (by decide +kernel)];exact⟨rfl,rfl⟩))
  (fun os started H enc _ F=>lifted os started H enc F)
theorem proved:Rows.GateTicksUptoSaid:=On
#print axioms proved
end Go.Proofs.YtendheafcbickaaGreat.gateTicksUpto
