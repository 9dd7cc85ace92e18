
import Derived.Test.YtendheafcbickaaGreatHZip
import Derived.Test.YtendheafcbickaaGreatHGo
import Derived.Test.YtendheafcbickaaGreatHMg16
import Derived.Test.YtendheafcbickaaGreatHPckN
import Derived.Test.YtendheafcbickaaGreatHHeadE
import Derived.Test.YtendheafcbickaaGreatHMg27
import Derived.Test.YtendheafcbickaaGreatHLock3
import Derived.Test.YtendheafcbickaaGreatHFrEn
import Derived.Test.YtendheafcbickaaGreatHFrTx
import Derived.Test.YtendheafcbickaaGreatHFrF
set_option linter.unusedVariables false
set_option linter.unusedSimpArgs false
set_option linter.unusedVariables false
namespace Go.Proofs.YtendheafcbickaaGreat
set_option maxRecDepth 100000
attribute [local irreducible] Run RunL QStep GStep Fn Less PL FnM
def frsFlt:List DFrame→Int
  | []=>0
  | f :: l=>if frFlt f≠0 then frFlt f else frsFlt l
def frsB (l:List DFrame):List UInt8:=l.flatMap frB
theorem frsB_snoc (l:List DFrame) (f:DFrame):frsB (l++[f])=frsB l++frB f:=by unfold frsB;rw [List.flatMap_append];simp
theorem frsB_len {l:List DFrame} (h:∀ f ∈ l,frFlt f=0):(frsB l).length≤1000 * l.length:=by
  induction l with
  | nil=>exact Nat.zero_le _
  | cons f l ih=>
    have h1:=frB_len (h f List.mem_cons_self)
    have h2:=ih (fun g hg=>h g (List.mem_cons_of_mem _ hg))
    unfold frsB at *
    rw [List.flatMap_cons,List.length_append,List.length_cons]
    omega
theorem frsFlt_drop {l:List DFrame} {k:Nat} (hk:k<l.length):frsFlt (l.drop k)=if frFlt (l.getD k default)≠0 then frFlt (l.getD k default) else frsFlt (l.drop (k+1)):=by
  rw [drop_cons hk];rfl
def pkH (h:DHead) (c:List UInt8):DHead:=⟨h.Kind,h.To,h.From,h.Token,((numG 0 c:Nat):Int),(c.length:Int)⟩
noncomputable def pktR (key:Int) (h:DHead) (n acked:Int) (l:List DFrame):List UInt8×Int:=
  if (cutR n acked).2≠0 then ([],(cutR n acked).2)
  else if hdFlt (pkH h (cutR n acked).1)≠0 then ([],hdFlt (pkH h (cutR n acked).1))
  else if frsFlt l≠0 then ([],frsFlt l)
  else if 400<(hdB (pkH h (cutR n acked).1)).length+(frsB l).length+8 then ([],1)
  else (hdB (pkH h (cutR n acked).1)++sealB key n (hdB (pkH h (cutR n acked).1)) (frsB l),0)
theorem cutR_len {n d:Int}:(cutR n d).1.length≤4:=by
  unfold cutR
  split
  · exact Nat.zero_le _
  · split
    · exact Nat.zero_le _
    · dsimp only
      rw [bigB_length]
      unfold cutK
      (repeat' split) <;> omega
theorem pkH_wf {h:DHead} {c:List UInt8} (hw:wfHead h) (hc:c.length≤4):wfHead (pkH h c):=by
  obtain ⟨w1,w2,w3,w4,w5,w6⟩:=hw
  have:=numG_lt 0 c
  have h2:256 ^ c.length≤256 ^ 4:=Nat.pow_le_pow_right (by omega) hc
  have h3:(256:Nat) ^ 4=4294967296:=by decide
  unfold pkH wfHead I64
  dsimp only
  exact ⟨w1,w2,w3,w4,by omega,by omega⟩
def encPk (r:List UInt8×Int):V:=.tup [.ro (r.1.map encB),.lit (.int .i64 r.2)]
theorem frs_step {l:List DFrame} {k:Nat} {e:Int} (hk:k<l.length) (h:frsFlt (l.drop k)=e):(frFlt (l.getD k default)≠0→e=frFlt (l.getD k default))∧(frFlt (l.getD k default)=0→frsFlt (l.drop (k+1))=e):=by
  rw [frsFlt_drop hk] at h
  refine ⟨fun h0=>?_,fun h0=>?_⟩
  · rw [if_pos h0] at h;exact h.symm
  · rw [if_neg (by omega)] at h;exact h
theorem frsFlt_zero {l:List DFrame} (h:frsFlt l=0):∀ f ∈ l,frFlt f=0:=by
  induction l with
  | nil=>intro f hf;cases hf
  | cons g l ih=>
    simp only [frsFlt] at h
    split at h
    · exact absurd h (by assumption)
    · intro f hf
      rcases List.mem_cons.1 hf with rfl|hf
      · omega
      · exact ih h f hf
theorem frsB_step {l:List DFrame} {k:Nat} (hk:k<l.length):frsB (l.take (k+1))=frsB (l.take k)++frB (l.getD k default):=by rw [take_snoc hk,frsB_snoc]
set_option maxHeartbeats 8000000 in
theorem packet_fn (key:Int) (h:DHead) (n acked:Int) (l:List DFrame) (hw:wfHead h) (hl:∀ f ∈ l,wfFrame f) (hll:l.length≤1048576):Fn Tryz.prog 102 [.lit (.int .u64 key),.agg (encHead h),.lit (.int .i64 n),.lit (.int .i64 acked),.ro (l.map encFrame)] (encPk (pktR key h n acked l)):=by
  have h1:=pkCut_fn n acked
  have hcl:=cutR_len (n:=n) (d:=acked)
  unfold pktR encPk
  unfold encCut at h1
  generalize cutR n acked=c at *
  obtain ⟨c,ce⟩:=c
  dsimp only at *
  by_cases c0:ce=0
  · subst c0
    rw [if_neg (by omega)]
    have hw2:=pkH_wf hw hcl
    obtain ⟨K,T,F,tok,N,S⟩:=h
    unfold pkH at *
    unfold encHead
    dsimp only at *
    have h8:∀ m:Nat,m<18014398509481984 → ∀ c:Nat,c<256→bitsI .or .i64 (IntKind.i64.wrap ((m:Int) * 2 ^ min (8:Int).toNat IntKind.i64.bits)) (c:Int)=((m * 256+c:Nat):Int):=fun m hm c hc=>by rw [shl8 m hm];exact or64b m c hc hm
    refine fn_of_run (by kernel_rfl) Tryz.func102 rfl (by kernel_rfl) ?_
    (repeat' first|(refine s_call (h1) (h:=?_))|(refine p_call (h1) (h:=?_))|(refine go_ ?_;((repeat' first|exact True.intro|refine Two.mk ?_ ?_);all_goals intros))|fail "")
    refine r_for (fun j:Nat=>⟨[(0,.lit (.int .u64 key)),(2,.lit (.int .i64 n)),(4,.ro (l.map encFrame)),(6,.ptr 0 0 0 0),(36,.ro (c.map encB)),(37,.lit (.int .i64 c.length)),(38,.lit (.int .i64 j))],[(0,some (.box 138 [.lit (.int .i64 K),.lit (.int .i64 T),.lit (.int .i64 F),.ro (tok.map encB),.lit (.int .i64 ((numG 0 (c.take j):Nat):Int)),.lit (.int .i64 c.length)]))],1,Tryz.f102.ntmps⟩)
      (fun j=>j≤c.length) (fun j=>c.length - j) 0 (Nat.zero_le _) (by rw [show numG 0 (c.take 0)=0 from rfl];(exact lessA_)) ?_
    intro j hj
    by_cases hjr:j<c.length
    · have hc:=(c.getD j default).toNat_lt
      have hg:=numG_lt 0 (c.take j)
      rw [List.length_take,Nat.min_eq_left hj] at hg
      have hp:(0+1) * 256 ^ j≤1 * 256 ^ 4:=Nat.mul_le_mul (by omega) (Nat.pow_le_pow_right (by omega) (by omega))
      have h7:1 * (256:Nat) ^ 4=4294967296:=by decide
      have e:numG 0 (c.take (j+1))=numG 0 (c.take j) * 256+(c.getD j default).toNat:=by rw [take_snoc hjr,numG_snoc]
      have e2:=h8 (numG 0 (c.take j)) (by omega) (c.getD j default).toNat (by omega)
      rw [← e] at e2
      generalize numG 0 (c.take j)=m at *
      clear e hg hp h7
      (repeat' first|(refine go_ ?_;((repeat' first|exact True.intro|refine Two.mk ?_ ?_);all_goals intros))|fail "")
      all_goals (rw [e2];(refine ⟨j+1,?_,?_,?_⟩;rotate_left 2;(exact lessA_);(exact Z69_);(exact Z69_)))
    · have:j=c.length:=by omega
      subst this
      rw [List.take_length]
      clear h1 h8
      generalize hH:(⟨K,T,F,tok,((numG 0 c:Nat):Int),(c.length:Int)⟩:DHead)=H at *
      have hC:encHead H=[.lit (.int .i64 K),.lit (.int .i64 T),.lit (.int .i64 F),.ro (tok.map encB),.lit (.int .i64 ((numG 0 c:Nat):Int)),.lit (.int .i64 c.length)]:=by rw [← hH];rfl
      by_cases hf:hdFlt H=0
      · rw [if_neg (by omega)]
        have g1:=headEncode_own H hw2 hf
        have hbl:=hdB_len hf
        rw [hC] at g1
        generalize hdB H=hb at *
        have h0:=frsFlt_zero (l:=l)
        have hz:frsFlt (l.drop 0)=frsFlt l:=rfl
        generalize hE:frsFlt l=E at *
        (repeat' first|(refine s_callM [] (g1) (h:=?_))|(refine go_ ?_;((repeat' first|exact True.intro|refine Two.mk ?_ ?_);all_goals intros))|fail "")
        refine r_for (fun x:Nat×List UInt8=>⟨[(0,.lit (.int .u64 key)),(2,.lit (.int .i64 n)),(16,.own 1),(17,.own 2),(58,.ro (l.map encFrame)),(59,.lit (.int .i64 l.length)),(60,.lit (.int .i64 x.1))],[(1,some (.row 5 1 (hb.map encB))),(2,some (.row 5 1 (x.2.map encB)))],3,Tryz.f102.ntmps⟩)
          (fun x=>x.1≤l.length∧frsFlt (l.drop x.1)=E∧x.2=frsB (l.take x.1)∧x.2.length≤1000 * x.1) (fun x=>l.length - x.1) (0,[]) ⟨Nat.zero_le _,hz,rfl,Nat.zero_le _⟩ ((less_own (n:=2) (t:=17) 5 1 rfl rfl rfl).trans less_to) ?_
        rintro ⟨k,tx⟩ ⟨hk,hke,htx,hkl⟩
        dsimp only at hk hke htx hkl ⊢
        by_cases hkn:k<l.length
        · obtain ⟨q1,q2⟩:=frs_step hkn hke
          have hfw:=hl _ (getD_mem hkn)
          have hbs:=frsB_step hkn
          by_cases hff:frFlt (l.getD k default)=0
          · have g2:=frameEncode_ok _ hfw hff
            have g3:=frB_len hff
            have q2:=q2 hff
            rw [← htx] at hbs
            generalize frB (l.getD k default)=fb at *
            have hnl:(tx++fb).length≤1000 * (k+1):=by rw [List.length_append];omega
            (repeat' first|(refine s_call (g2) (h:=?_))|(refine p_call (g2) (h:=?_))|(refine s_app (r:=(tx++fb).map encB) ?_ ?_ ?_ ?_ (h:=?_);(exact Z60_);(exact Z47_);(exact Z12_);(exact Z22_))|(refine s_app0R (r:=(tx++fb).map encB) ?_ ?_ ?_ ?_ (h:=?_);(exact Z60_);(exact Z47_);(exact Z12_);(exact Z22_))|(refine p_app (r:=(tx++fb).map encB) ?_ ?_ ?_ ?_ (h:=?_);(exact Z60_);(exact Z47_);(exact Z12_);(exact Z22_))|(refine go_ ?_;((repeat' first|exact True.intro|refine Two.mk ?_ ?_);all_goals intros))|fail "")
            all_goals first
              | (refine ⟨(k+1,tx++fb),?_,?_,?_⟩;rotate_left 2;(exact lessA_);(exact Z66_);(focus (exact ⟨hkn,q2,hbs.symm,hnl⟩)))
              | skip
          · have g2:=frameEncode_bad _ hfw hff
            have q1:=q1 hff
            rw [← q1] at g2 hff
            rw [if_pos hff]
            (repeat' first|(refine s_call (g2) (h:=?_))|(refine p_call (g2) (h:=?_))|(refine go_ ?_;((repeat' first|exact True.intro|refine Two.mk ?_ ?_);all_goals intros))|fail "")
            all_goals first
              | (exact endwA_)
              | skip
        · have hkl2:k=l.length:=by omega
          subst hkl2
          rw [List.drop_length] at hke
          have hE0:E=0:=hke.symm
          subst hE0
          rw [if_neg (by omega)]
          rw [List.take_length] at htx
          rw [← htx]
          have g3:=seal_own key n hb tx (by omega) (by omega)
          have g4:(sealB key n hb tx).length=tx.length+8:=by unfold sealB;rw [List.length_append,turnB_length,tagB_length]
          generalize sealB key n hb tx=sb at *
          have hsl:(hb++sb).length=hb.length+tx.length+8:=by rw [List.length_append];omega
          by_cases hs:400<hb.length+tx.length+8
          · rw [if_pos hs]
            (repeat' first|refine s_snapB g3 (h:=?_)|(refine s_app (r:=(hb++sb).map encB) ?_ ?_ ?_ ?_ (h:=?_);(exact Z60_);(exact Z47_);(exact Z12_);(exact Z22_))|(refine s_app0R (r:=(hb++sb).map encB) ?_ ?_ ?_ ?_ (h:=?_);(exact Z60_);(exact Z47_);(exact Z12_);(exact Z22_))|(refine p_app (r:=(hb++sb).map encB) ?_ ?_ ?_ ?_ (h:=?_);(exact Z60_);(exact Z47_);(exact Z12_);(exact Z22_))|(refine go_ ?_;((repeat' first|exact True.intro|refine Two.mk ?_ ?_);all_goals intros))|fail "")
            all_goals first
              | (exact endwA_)
              | skip
          · rw [if_neg hs]
            (repeat' first|refine s_snapB g3 (h:=?_)|(refine s_app (r:=(hb++sb).map encB) ?_ ?_ ?_ ?_ (h:=?_);(exact Z60_);(exact Z47_);(exact Z12_);(exact Z22_))|(refine s_app0R (r:=(hb++sb).map encB) ?_ ?_ ?_ ?_ (h:=?_);(exact Z60_);(exact Z47_);(exact Z12_);(exact Z22_))|(refine p_app (r:=(hb++sb).map encB) ?_ ?_ ?_ ?_ (h:=?_);(exact Z60_);(exact Z47_);(exact Z12_);(exact Z22_))|(refine go_ ?_;((repeat' first|exact True.intro|refine Two.mk ?_ ?_);all_goals intros))|fail "")
            all_goals first
              | (exact endwA_)
              | skip
      · rw [if_pos hf]
        have g1:=headEncode_bad H hw2 hf
        rw [hC] at g1
        generalize hdFlt H=e at *
        (repeat' first|(refine s_call (g1) (h:=?_))|(refine p_call (g1) (h:=?_))|(refine go_ ?_;((repeat' first|exact True.intro|refine Two.mk ?_ ?_);all_goals intros))|fail "")
        all_goals first
          | (exact endwA_)
          | skip
  · rw [if_pos c0]
    refine fn_of_run (by kernel_rfl) Tryz.func102 rfl (by kernel_rfl) ?_
    (repeat' first|(refine s_call (h1) (h:=?_))|(refine p_call (h1) (h:=?_))|(refine go_ ?_;((repeat' first|exact True.intro|refine Two.mk ?_ ?_);all_goals intros))|fail "")
    all_goals first
      | (exact endwA_)
      | skip
end Go.Proofs.YtendheafcbickaaGreat
