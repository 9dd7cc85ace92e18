
import Derived.Test.YtendheafcbickaaGreatCMg06
set_option linter.unusedVariables false
set_option linter.unusedSimpArgs false
set_option maxHeartbeats 16000000
namespace Go.Proofs.YtendheafcbickaaGreat
set_option maxRecDepth 100000
attribute [local irreducible] cE a6 bu GStep Fn cg bf cA
theorem N3 (c:aG) (ao:c.aq.length<=1000000) (ae:0<=c.cN/\c.cN<=4611686018427387903):Fn Tryz.prog 116 [.agg (cj c)] (.agg (cj (kJ c))):=by
 unfold kJ;generalize jU:cj { c with aq:=c.aq++[jj c.cN],cN:=c.cN+1 }=Z;unfold cj at jU;dsimp only at jU;subst jU;refine aH Tryz.func116 ?_;(repeat' first|refine eP (c.aq.map eo) ?_|(refine kI (r:=c.aq.map eo++[mH c.cN]) ?_ ?_ ?_ ?_ (h:=?_);(exact s6);(exact dm);(exact dp);(exact dq))|(refine k9 (r:=c.aq.map eo++[mH c.cN]) ?_ ?_ ?_ ?_ (h:=?_);(exact s6);(exact dm);(exact dp);(exact dq))|(refine la (r:=c.aq.map eo++[mH c.cN]) ?_ ?_ ?_ ?_ (h:=?_);(exact s6);(exact dm);(exact dp);(exact dq))|(refine kl (r:=c.aq.map eo++[mH c.cN]) ?_ ?_ ?_ ?_ (h:=?_);(exact s6);(exact dm);(exact dp);(exact dq))|(refine fI 2 ?_;(and_intros <;> intros))|fail);refine gH (bq:=⟨[(1,.ptr 0 0 0 0),(2,.ptr 1 0 0 0)],[(0,some (.box 51 [ab c.Client,I c.aQ.Next,.ro (c.aQ.aR.map bC),I c.aQ.c9,.ro (c.aQ.cD.map aB),.ro (c.aQ.bI.map encI),I c.cy.bj,I c.cy.dy,I c.cy.c0,I c.cy.Since,I c.di.Max,I c.di.bG,I c.eh.Max,I c.eh.bG,I c.gQ,I c.gR,I c.cN,.own 2,ab c.fT,.ro (c.Queue.map aO),I c.dT,I c.gP,ab c.fj,I c.Code])),(1,some (.box 51 [ab false,I 0,aX,I 0,aX,aX,I 0,I 0,I 0,I 0,I 0,I 0,I 0,I 0,I 0,I 0,I 0,aX,ab false,aX,I 0,I 0,ab false,I 0])),(2,some (.row 134 16 (c.aq.map eo++[mH c.cN])))],3,Tryz.f116.ntmps⟩) fP ?_;refine gH (LW (e:=134) (s:=16) (l:=c.aq.map eo) (c:=mH c.cN) (hM:=eo (jj c.cN)) (id:=2) rfl (Y7 c.cN) rfl) ?_;rw[show c.aq.map eo++[eo (jj c.cN)]=(c.aq++[jj c.cN]).map eo from (by rw[ix];rfl)];(try refine ay ?_;and_intros <;> intros)
 all_goals first|exact fq|skip
end Go.Proofs.YtendheafcbickaaGreat
