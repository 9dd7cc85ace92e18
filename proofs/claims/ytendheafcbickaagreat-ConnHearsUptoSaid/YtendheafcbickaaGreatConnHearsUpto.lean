/-
  ConnHears: conn.Hear answers what P18.6 says, within the bound of the second form.
-/
import Derived.Test.YtendheafcbickaaGreatCHxM
import Derived.Test.YtendheafcbickaaGreatCMg54
set_option linter.unusedVariables false
set_option linter.unusedSimpArgs false
set_option maxHeartbeats 16000000
namespace Go.Proofs.YtendheafcbickaaGreat.connHearsUpto
open Go.ChangeShapes Go.WideShapes Go.ChangeAt Go.RowKit
set_option maxRecDepth 100000
attribute [local irreducible] cE a6 bu GStep Fn cg bf cA
theorem Bb:fw default:=by
 unfold fw gM h2 oe aE;refine ⟨⟨by decide,by decide,(fun y aj=>by cases aj),by decide,by decide,(fun y aj=>by cases aj),by decide,(fun y aj=>by cases aj)⟩,by decide,by decide,by decide,by decide,by decide,by decide,by decide,(fun y aj=>by cases aj),by decide,(fun y aj=>by cases aj),by decide,by decide,by decide⟩
theorem Xz (c:aG) (now number:Int) (l:List bo) (hu:bT.fw c) (ao:∀ f ∈ l,bT.dx f):fw (uS c now number l).1:=by
 have hw:=bT.qa c hu;unfold uS;split
 ·rename_i ai;obtain ⟨eG,cw⟩:=H3 ai hu;split
  ·rename_i hn;split
   ·rename_i ax;split
    ·exact Bb
    ·split
     ·exact Bb
     ·split
      ·exact hw
      ·have bW:0<=max now c.dT/\max now c.dT<=1099511627776:=by have:=eG.a8;rw[Int.max_def];split <;> omega
       have n1:c3 (nZ (iy c (km c.aQ number).1) (max now c.dT)):=⟨eG.op,eG.jf,eG.id,eG.dv,eG.mg,Gd c.aQ number eG.sp,eG.lC,bW,eG.h7,eG.n2⟩;have n3:cK 4194304 (nZ (iy c (km c.aQ number).1) (max now c.dT)):=⟨cw.eg,cw.lD,cw.gK,cw.iK,cw.nn⟩;exact W.qa _ (VB n1 n3 (by omega) (fun f hf=>⟨bT.zi _ (ao f hf),Ck ax f hf⟩))
   ·exact Bb
  ·exact Bb
 ·exact Bb
theorem XA (c:aG) (now number:Int) (l:List bo) (hu:bT.fw c) (tz:l.length<=1048576) (ao:∀ f,f ∈ l->bT.dx f):Fn Tryz.prog 6 [.agg (cj c),I now,I number,.ro (l.map aO)] (ab true):=by
 have il:∀ f ∈ l,dx f:=fun f hf=>bT.zi _ (ao f hf)
 have J:=U4 (B:=4194304) c now number l (bT.qa c hu) (fun ai=>H3 ai hu) (by omega) il (by omega);have aa:=Tm (B:=4194304) c now number l (W.Vp c hu) (fun ai=>H3 ai hu) (by omega) il (by omega);have az:=XB _ (Xz c now number l hu ao);clear hu tz ao il;generalize uS c now number l=x at *;obtain ⟨x,o,e⟩:=x;unfold yy at J aa;dsimp only at *
 cases o
 ·refine aH Tryz.func6 ?_;(refine pt J aa az ?_;and_intros <;> intros)
  all_goals first
   | exact bX (hr:=rfl)
   | (exfalso;simp at *;done)
   | skip
 ·refine aH Tryz.func6 ?_;(refine pt J aa az ?_;and_intros <;> intros)
  all_goals first
   | exact bX (hr:=rfl)
   | (exfalso;simp at *;done)
   | skip
theorem walk (W:World) (v0:Value) (v1:Value) (v2:Value) (v3:Value) (ai:bT.kb Tryz.prog W 51 v0) (J:bT.kb Tryz.prog W 3 v1) (aa:bT.kb Tryz.prog W 3 v2) (az:bT.kb Tryz.prog W 49 v3) :
  Calls Tryz.prog 6 #[v0,v1,v2,v3] W fun e pI=>e = .returned (.bool true)/\Below W.heap.size W pI:=by
 obtain ⟨dz,rfl,g0⟩:=ai.jn Tryz.underlying51;obtain ⟨eZ,Ji,w0⟩:=bT.PU _ g0;obtain ⟨ew,rfl,c4⟩:=J.dR Tryz.underlying3;replace c4:=en c4;obtain ⟨er,rfl,du⟩:=aa.dR Tryz.underlying3;replace du:=en du;obtain ⟨a3,ab8,Cx,rfl,g3⟩:=az.w6 Tryz.underlying49;obtain ⟨eK,Jj,w3,N9⟩:=bT.iu (enc:=aO) (wf:=bT.dx) (size:=7) (bytes:=88) Tryz.underlying49 bR bR (by decide) (fun es h=>bT.xN es h) g3;exact XC (XA eZ ew er eK w0 (by omega) N9) (.cons (XD Ji) (.cons (PV rfl) (.cons (PV rfl) (.cons (XE Jj) (.nil)))))
set_option maxRecDepth 100000 in
theorem lifted (os:Os) (started:os.Started) (H:Type) (enc:TypeId×Value->H) (F:Stop.Interp) :
  ReturnsInHanded {} Tryz.checked os 6 .any ((Rows.OpenSpec.upto Rows.connHearsSpec).pre6 enc Tryz.prog Tryz.f6 Rows.connHearsUptoRow.domain false) (((Rows.OpenSpec.upto Rows.connHearsSpec).at F).post enc Tryz.prog Tryz.f6 false true false false):=
 bT.Ng (C:=Tryz.checked) (s:=Rows.connHearsSpec) bR started bR Tryz.func6
  (OpenSpec.witness (enc:=enc) (C:=Tryz.checked) (s:=Rows.OpenSpec.upto Rows.connHearsSpec) (k:=Rows.uptoSmall) rfl false ⟨#[],#[.agg #[.bool false,.int .i64 0,.slice none 0 0,.int .i64 0,.slice none 0 0,.slice none 0 0,.int .i64 0,.int .i64 0,.int .i64 0,.int .i64 0,.int .i64 0,.int .i64 0,.int .i64 0,.int .i64 0,.int .i64 0,.int .i64 0,.int .i64 0,.slice none 0 0,.bool false,.slice none 0 0,.int .i64 0,.int .i64 0,.bool false,.int .i64 0],.int .i64 0,.int .i64 0,.slice none 0 0],[]⟩ 8 bR bR bR
   (x:=([.agg [.lit (.bool false),.agg [.lit (.int .i64 0),.nil,.lit (.int .i64 0),.nil,.nil],.agg [.lit (.int .i64 0),.lit (.int .i64 0),.lit (.int .i64 0),.lit (.int .i64 0)],.agg [.lit (.int .i64 0),.lit (.int .i64 0)],.agg [.lit (.int .i64 0),.lit (.int .i64 0)],.lit (.int .i64 0),.lit (.int .i64 0),.lit (.int .i64 0),.nil,.lit (.bool false),.nil,.lit (.int .i64 0),.lit (.int .i64 0),.lit (.bool false),.lit (.int .i64 0)],.lit (.int .i64 0),.lit (.int .i64 0),.nil],[],[])) bR rfl bR)
  bR rfl (fun ds hd=>by
   match ds,hd with
   | [_,_,_,_],_=>rfl) rfl Tryz.underlying4 bR
  (fun W args h=>by
   rw[Tryz.params6] at h;obtain ⟨v0,ab9,va,ai,Ji⟩:=h;obtain ⟨v1,fv,aI,J,As⟩:=Ji;obtain ⟨v2,gz,a7,aa,xK⟩:=As;obtain ⟨v3,mG,cC,az,Jj⟩:=xK;have XF:mG=[]:=Jj;obtain rfl:args = #[v0,v1,v2,v3]:=by
    apply Array.toList_inj.1;rw[va,aI,a7,cC,XF]
   exact walk W v0 v1 v2 v3 ai J aa az)
theorem closed:joinedFacts Tryz.pinned.checked.prog 6 Tryz.f6 ((Rows.OpenSpec.upto Rows.connHearsSpec).bare) Rows.connHearsUptoRow=true:=by
 unfold joinedFacts;simp only[fM]
 repeat' apply And.intro
 all_goals decide +kernel
theorem XG:Rows.connHearsUptoRow.holds Tryz.pinned (Rows.OpenSpec.upto Rows.connHearsSpec):=
 OpenClaim.holds_of_cond 6 Tryz.f6 rfl rfl rfl rfl rfl rfl rfl ⟨rfl,rfl,rfl,rfl,rfl⟩ rfl rfl rfl rfl rfl bR Tryz.func6 closed
  (of_decide_eq_true bR) (by unfold Func.isWrapper;first|(rw[al (by decide +kernel)];kernel_rfl)|(rw[ah (by decide +kernel)];exact⟨rfl,rfl⟩))
  (fun os started H enc _ F=>lifted os started H enc F)
theorem proved:Rows.ConnHearsUptoSaid:=XG
#print axioms proved
end Go.Proofs.YtendheafcbickaaGreat.connHearsUpto
