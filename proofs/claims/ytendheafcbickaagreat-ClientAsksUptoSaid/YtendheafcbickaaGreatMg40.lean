/-
  SEVERAL TEXTS IN ONE: each with its own comment.
-/
import Derived.Test.YtendheafcbickaaGreatZip
import Derived.Test.YtendheafcbickaaGreatGo
import Derived.Test.YtendheafcbickaaGreatMg32
import Derived.Test.YtendheafcbickaaGreatMg28
import Derived.Test.YtendheafcbickaaGreatMg17
import Derived.Test.YtendheafcbickaaGreatCnF
import Derived.Test.YtendheafcbickaaGreatMg05
import Derived.Test.YtendheafcbickaaGreatFlI
import Derived.Test.YtendheafcbickaaGreatMg34
import Derived.Test.YtendheafcbickaaGreatMg13

set_option linter.unusedVariables false
set_option linter.unusedSimpArgs false
set_option linter.unusedVariables false
namespace Go.Proofs.YtendheafcbickaaGreat
set_option maxRecDepth 100000
attribute [local irreducible] Run RunL QStep GStep Fn Less PL FnM
theorem wrapN {n:Nat} (h:n<9223372036854775808):IntKind.i64.wrap (n:Int)=(n:Int):=by rw [IntKind.wrap_i64];omega
set_option maxHeartbeats 8000000 in
theorem packetOf_fn (key:Int) (h:DHead) (n acked:Int) (l:List DFrame) (hw:wfHead h) (hn:I64 n) (ha:I64 acked) (hl:∀ f ∈ l,wfFrame f) (hll:l.length≤1048576):Fn Tryz.prog 109 [.lit (.int .u64 key),.agg (encHead h),.lit (.int .i64 n),.lit (.int .i64 acked),.ro (l.map encFrame)] (encPk (pktR key h n acked l)):=by
  have h1:=cutNumber_fn n acked hn ha
  have hcl:=cutR_len (n:=n) (d:=acked)
  unfold pktR encPk
  unfold encCut at h1
  generalize cutR n acked=c at *
  obtain ⟨c,ce⟩:=c
  dsimp only at *
  by_cases c0:ce=0
  · subst c0
    rw [if_neg (by omega)]
    have hw2:=pkH_wf hw hcl
    have h2:=num_fn c (by omega)
    have hg:=numG_lt 0 c
    have hp:(0+1) * 256 ^ c.length≤1 * 256 ^ 4:=Nat.mul_le_mul (by omega) (Nat.pow_le_pow_right (by omega) (by omega))
    have h7:1 * (256:Nat) ^ 4=4294967296:=by decide
    obtain ⟨K,T,F,tok,N,S⟩:=h
    unfold pkH at *
    unfold encHead
    dsimp only at *
    generalize hH:(⟨K,T,F,tok,((numG 0 c:Nat):Int),(c.length:Int)⟩:DHead)=H at *
    have hC:encHead H=[.lit (.int .i64 K),.lit (.int .i64 T),.lit (.int .i64 F),.ro (tok.map encB),.lit (.int .i64 ((numG 0 c:Nat):Int)),.lit (.int .i64 c.length)]:=by rw [← hH];rfl
    have h3:=headFault_fn H hw2
    rw [hC] at h3
    have hwn:=wrapN (n:=numG 0 c) (by omega)
    generalize numG 0 c=m at *
    clear hp h7
    by_cases hf:hdFlt H=0
    · rw [if_neg (by omega)]
      rw [hf] at h3
      have h4:=headText_fn H hf
      rw [hC] at h4
      have hbl:=hdB_len hf
      generalize hdB H=hb at *
      have hz:frsFlt (l.drop 0)=frsFlt l:=rfl
      generalize hE:frsFlt l=E at *
      refine fn_of_run (by kernel_rfl) Tryz.func109 rfl (by kernel_rfl) ?_
      (repeat' first|(refine s_call (h1) (h:=?_))|(refine p_call (h1) (h:=?_))|(refine s_call (h2) (h:=?_))|(refine p_call (h2) (h:=?_))|(refine go_ ?_;((repeat' first|exact True.intro|refine Two.mk ?_ ?_);all_goals intros))|fail "")
      rw [hwn]
      (repeat' first|(refine s_call (h3) (h:=?_))|(refine p_call (h3) (h:=?_))|(refine go_ ?_;((repeat' first|exact True.intro|refine Two.mk ?_ ?_);all_goals intros))|fail "")
      refine r_for (fun x:Nat×List UInt8=>⟨[(0,.lit (.int .u64 key)),(2,.lit (.int .i64 n)),(6,.ptr 0 0 0 0),(15,.lit (.string (strB x.2))),(42,.ro (l.map encFrame)),(43,.lit (.int .i64 l.length)),(44,.lit (.int .i64 x.1))],[(0,some (.box 138 [.lit (.int .i64 K),.lit (.int .i64 T),.lit (.int .i64 F),.ro (tok.map encB),.lit (.int .i64 (m:Int)),.lit (.int .i64 c.length)]))],1,Tryz.f109.ntmps⟩)
        (fun x=>x.1≤l.length∧frsFlt (l.drop x.1)=E∧x.2=frsB (l.take x.1)∧x.2.length≤1000 * x.1) (fun x=>l.length - x.1) (0,[]) ⟨Nat.zero_le _,hz,rfl,Nat.zero_le _⟩ less_to ?_
      rintro ⟨k,tx⟩ ⟨hk,hke,htx,hkl⟩
      dsimp only at hk hke htx hkl ⊢
      by_cases hkn:k<l.length
      · obtain ⟨q1,q2⟩:=frs_step hkn hke
        have hfw:=hl _ (getD_mem hkn)
        have hbs:=frsB_step hkn
        have g1:=frameFault_fn _ hfw
        by_cases hff:frFlt (l.getD k default)=0
        · have g2:=frameText_fn _ hff
          have g3:=frB_len hff
          have q2:=q2 hff
          rw [hff] at g1
          rw [← htx] at hbs
          generalize frB (l.getD k default)=fb at *
          have hnl:(tx++fb).length≤1000 * (k+1):=by rw [List.length_append];omega
          (repeat' first|(refine s_call (g1) (h:=?_))|(refine p_call (g1) (h:=?_))|(refine s_call (g2) (h:=?_))|(refine p_call (g2) (h:=?_))|(refine go_ ?_;((repeat' first|exact True.intro|refine Two.mk ?_ ?_);all_goals intros))|fail "")
          all_goals first
            | (refine ⟨(k+1,tx++fb),?_,?_,?_⟩;rotate_left 2;(exact lessA_);(exact Z66_);(focus (exact ⟨hkn,q2,hbs.symm,hnl⟩)))
            | skip
        · have q1:=q1 hff
          rw [← q1] at g1 hff
          rw [if_pos hff]
          (repeat' first|(refine s_call (g1) (h:=?_))|(refine p_call (g1) (h:=?_))|(refine go_ ?_;((repeat' first|exact True.intro|refine Two.mk ?_ ?_);all_goals intros))|fail "")
          all_goals first
            | (exact endwA_)
            | skip
      · have hkl2:k=l.length:=by omega
        subst hkl2
        rw [List.drop_length] at hke
        have hE0:E=0:=hke.symm
        subst hE0
        rw [if_neg (by omega)]
        rw [List.take_length] at htx
        rw [← htx]
        have g3:=locked_fn key n hb tx (by omega) (by omega)
        have g4:(sealB key n hb tx).length=tx.length+8:=by unfold sealB;rw [List.length_append,turnB_length,tagB_length]
        generalize sealB key n hb tx=sb at *
        by_cases hs:400<hb.length+tx.length+8
        · rw [if_pos hs]
          (repeat' first|(refine s_call (h4) (h:=?_))|(refine p_call (h4) (h:=?_))|(refine s_call (g3) (h:=?_))|(refine p_call (g3) (h:=?_))|(refine go_ ?_;((repeat' first|exact True.intro|refine Two.mk ?_ ?_);all_goals intros))|fail "")
          all_goals first
            | (exact endwA_)
            | skip
        · rw [if_neg hs]
          (repeat' first|(refine s_call (h4) (h:=?_))|(refine p_call (h4) (h:=?_))|(refine s_call (g3) (h:=?_))|(refine p_call (g3) (h:=?_))|(refine go_ ?_;((repeat' first|exact True.intro|refine Two.mk ?_ ?_);all_goals intros))|fail "")
          all_goals first
            | (exact endwA_)
            | skip
    · rw [if_pos hf]
      generalize hdFlt H=e at *
      refine fn_of_run (by kernel_rfl) Tryz.func109 rfl (by kernel_rfl) ?_
      (repeat' first|(refine s_call (h1) (h:=?_))|(refine p_call (h1) (h:=?_))|(refine s_call (h2) (h:=?_))|(refine p_call (h2) (h:=?_))|(refine go_ ?_;((repeat' first|exact True.intro|refine Two.mk ?_ ?_);all_goals intros))|fail "")
      rw [hwn]
      (repeat' first|(refine s_call (h3) (h:=?_))|(refine p_call (h3) (h:=?_))|(refine go_ ?_;((repeat' first|exact True.intro|refine Two.mk ?_ ?_);all_goals intros))|fail "")
      all_goals first
        | (exact endwA_)
        | skip
  · rw [if_pos c0]
    refine fn_of_run (by kernel_rfl) Tryz.func109 rfl (by kernel_rfl) ?_
    (repeat' first|(refine s_call (h1) (h:=?_))|(refine p_call (h1) (h:=?_))|(refine go_ ?_;((repeat' first|exact True.intro|refine Two.mk ?_ ?_);all_goals intros))|fail "")
    all_goals first
      | (exact endwA_)
      | skip
end Go.Proofs.YtendheafcbickaaGreat


set_option linter.unusedVariables false
set_option linter.unusedSimpArgs false
set_option linter.unusedVariables false
namespace Go.Proofs.YtendheafcbickaaGreat
set_option maxRecDepth 100000
attribute [local irreducible] Run RunL QStep GStep Fn Less PL FnM
def clOk (c:DClient):Prop:=(((0≤c.Peer∧c.Peer≤3)∧0≤c.Id∧c.Id≤255)∧(0≤c.To∧c.To≤255)∧c.Token.length≤120)∧cnFlt c.Conn=0∧c.Conn.Client=true
noncomputable def clFlt (c:DClient):Int:=if yes (clOk c)=true then 0 else 9
theorem clFlt_t {c:DClient} (h:clOk c):clFlt c=0:=if_pos (yes_of h)
theorem clFlt_f {c:DClient} (h:¬ clOk c):clFlt c=9:=if_neg (by rw [no_of h];exact Bool.false_ne_true)
set_option maxHeartbeats 4000000 in
theorem clientCheck_fn (c:DClient) (hw:wfClient c):Fn Tryz.prog 50 [.agg (encClient c)] (.lit (.int .i64 (clFlt c))):=by
  have h1:=connCheck_fn c.Conn hw.2.2.2.2.2.2
  have ht:=hw.2.2.2.1
  clear hw
  by_cases h:clOk c
  · rw [clFlt_t h]
    unfold clOk at h
    obtain ⟨h0,h2,h3⟩:=h
    rw [h2] at h1
    obtain ⟨peer,id,word,token,to,key,conn⟩:=c
    obtain ⟨b0,space,pace,flow,credit,ids,grant,opened,lanes,b1,queue,last,resets,b2,code⟩:=conn
    dsimp only at *
    subst h3
    clear h2
    refine fn_of_run (by kernel_rfl) Tryz.func50 rfl (by kernel_rfl) ?_
    (repeat' first|(refine s_call (h1) (h:=?_))|(refine p_call (h1) (h:=?_))|(refine go_ ?_;((repeat' first|exact True.intro|refine Two.mk ?_ ?_);all_goals intros))|fail "")
    all_goals (try dsimp only at *)
    all_goals first
      | (exact endwA_)
      | (exfalso;omega)
      | skip
  · rw [clFlt_f h]
    unfold clOk at h
    generalize cnFlt c.Conn=f at *
    obtain ⟨peer,id,word,token,to,key,conn⟩:=c
    obtain ⟨b0,space,pace,flow,credit,ids,grant,opened,lanes,b1,queue,last,resets,b2,code⟩:=conn
    dsimp only at *
    cases b0
    · clear h
      refine fn_of_run (by kernel_rfl) Tryz.func50 rfl (by kernel_rfl) ?_
      (repeat' first|(refine s_call (h1) (h:=?_))|(refine p_call (h1) (h:=?_))|(refine go_ ?_;((repeat' first|exact True.intro|refine Two.mk ?_ ?_);all_goals intros))|fail "")
      all_goals (try dsimp only at *)
      all_goals first
        | (exact endwA_)
        | (exfalso;omega)
        | skip
    · have h:¬ ((((0≤peer∧peer≤3)∧0≤id∧id≤255)∧(0≤to∧to≤255)∧token.length≤120)∧f=0):=fun q=>h ⟨q.1,q.2,rfl⟩
      refine fn_of_run (by kernel_rfl) Tryz.func50 rfl (by kernel_rfl) ?_
      (repeat' first|(refine s_call (h1) (h:=?_))|(refine p_call (h1) (h:=?_))|(refine go_ ?_;((repeat' first|exact True.intro|refine Two.mk ?_ ?_);all_goals intros))|fail "")
      all_goals (try dsimp only at *)
      all_goals first
        | (exact endwA_)
        | (exfalso;omega)
        | skip
set_option maxHeartbeats 4000000 in
theorem clientFault_fn (c:DClient) (hw:W.wfClient c):Fn Tryz.prog 54 [.agg (encClient c)] (.lit (.int .i64 (clFlt c))):=by
  have h1:=connFault_fn c.Conn hw.2.2.2.2.2.2
  have ht:=hw.2.2.2.1
  clear hw
  by_cases h:clOk c
  · rw [clFlt_t h]
    unfold clOk at h
    obtain ⟨h0,h2,h3⟩:=h
    rw [h2] at h1
    obtain ⟨peer,id,word,token,to,key,conn⟩:=c
    obtain ⟨b0,space,pace,flow,credit,ids,grant,opened,lanes,b1,queue,last,resets,b2,code⟩:=conn
    dsimp only at *
    subst h3
    clear h2
    refine fn_of_run (by kernel_rfl) Tryz.func54 rfl (by kernel_rfl) ?_
    (repeat' first|(refine s_call (h1) (h:=?_))|(refine p_call (h1) (h:=?_))|(refine s_dec (upTo_fn _ _) (ht:=?_) (hff:=?_) <;> intro _ <;> try (exfalso;omega))|(refine p_dec (upTo_fn _ _) (ht:=?_) (hff:=?_) <;> intro _ <;> try (exfalso;omega))|(refine go_ ?_;((repeat' first|exact True.intro|refine Two.mk ?_ ?_);all_goals intros))|fail "")
    all_goals (try dsimp only at *)
    all_goals first
      | (exact endwA_)
      | (exfalso;omega)
      | skip
  · rw [clFlt_f h]
    unfold clOk at h
    generalize cnFlt c.Conn=f at *
    obtain ⟨peer,id,word,token,to,key,conn⟩:=c
    obtain ⟨b0,space,pace,flow,credit,ids,grant,opened,lanes,b1,queue,last,resets,b2,code⟩:=conn
    dsimp only at *
    cases b0
    · clear h
      refine fn_of_run (by kernel_rfl) Tryz.func54 rfl (by kernel_rfl) ?_
      (repeat' first|(refine s_call (h1) (h:=?_))|(refine p_call (h1) (h:=?_))|(refine s_dec (upTo_fn _ _) (ht:=?_) (hff:=?_) <;> intro _ <;> try (exfalso;omega))|(refine p_dec (upTo_fn _ _) (ht:=?_) (hff:=?_) <;> intro _ <;> try (exfalso;omega))|(refine go_ ?_;((repeat' first|exact True.intro|refine Two.mk ?_ ?_);all_goals intros))|fail "")
      all_goals (try dsimp only at *)
      all_goals first
        | (exact endwA_)
        | (exfalso;omega)
        | skip
    · have h:¬ ((((0≤peer∧peer≤3)∧0≤id∧id≤255)∧(0≤to∧to≤255)∧token.length≤120)∧f=0):=fun q=>h ⟨q.1,q.2,rfl⟩
      refine fn_of_run (by kernel_rfl) Tryz.func54 rfl (by kernel_rfl) ?_
      (repeat' first|(refine s_call (h1) (h:=?_))|(refine p_call (h1) (h:=?_))|(refine s_dec (upTo_fn _ _) (ht:=?_) (hff:=?_) <;> intro _ <;> try (exfalso;omega))|(refine p_dec (upTo_fn _ _) (ht:=?_) (hff:=?_) <;> intro _ <;> try (exfalso;omega))|(refine go_ ?_;((repeat' first|exact True.intro|refine Two.mk ?_ ?_);all_goals intros))|fail "")
      all_goals (try dsimp only at *)
      all_goals first
        | (exact endwA_)
        | (exfalso;omega)
        | skip
def clBegR (peer id word now:Int):DClient×Int:=if ((0≤peer∧peer≤3)∧0≤id∧id≤255)∧0≤now∧now≤1099511627776 then (⟨peer,id,word,[],0,0,(cnBegR true now).1⟩,0) else (default,6)
def encClE (r:DClient×Int):V:=.tup [.agg (encClient r.1),.lit (.int .i64 r.2)]
def helloF (w:Int):DFrame:=⟨6,0,0,false,0,[],bigB w.toNat 8⟩
def iniH (c:DClient):DHead:=⟨0,0,c.Id,c.Token,0,0⟩
noncomputable def clHelR (c:DClient):List UInt8×Int:=if clFlt c=0 then pktR (keyV 1 c.Id) (iniH c) 0 (-1) [helloF c.Word] else ([],clFlt c)
def helloRaw (m:Nat):List V:=[.lit (.int .i64 6),.lit (.int .i64 0),.lit (.int .i64 0),.lit (.bool false),.lit (.int .i64 0),.lit (.slice none 0 0),.ro ((bigB m 8).map encB)]
end Go.Proofs.YtendheafcbickaaGreat


set_option linter.unusedVariables false
set_option linter.unusedSimpArgs false
set_option linter.unusedVariables false
namespace Go.Proofs.YtendheafcbickaaGreat
set_option maxRecDepth 100000
noncomputable def wayV (k:Int) (up:Bool):Int:=if up=true then mixV k else mixV (bitsI .xor .u64 IntKind.u64.max k)
def shH (to:Int):DHead:=⟨2,to,0,[],0,0⟩
theorem shH_wf {to:Int} (h:I64 to):wfHead (shH to):=by
  unfold shH wfHead
  exact ⟨by unfold I64;dsimp only;omega,h,by unfold I64;dsimp only;omega,by simp,by unfold I64;dsimp only;omega,by unfold I64;dsimp only;omega⟩
noncomputable def tlP (c:DClient) (now:Int):List UInt8×Int:=pktR (wayV c.Key true) (shH c.To) (flR c.Conn now).2.1 c.Conn.Space.Top (flR c.Conn now).2.2.1
def clCn (c:DClient) (n:DConn):DClient:={ c with Conn:=n }
noncomputable def tolds (now:Int):Nat→DClient→DClient×List (List UInt8)
  | 0,c=>(c,[])
  | n+1,c=>if (c.To≠0∧(flR c.Conn now).2.2.2=0∧(flR c.Conn now).2.2.1.length≠0)∧(tlP c now).2=0 then ((tolds now n (clCn c (flR c.Conn now).1)).1,(tlP c now).1 :: (tolds now n (clCn c (flR c.Conn now).1)).2) else (c,[])
theorem tolds_s (now:Int) (n:Nat) (c:DClient):tolds now (n+1) c=if (c.To≠0∧(flR c.Conn now).2.2.2=0∧(flR c.Conn now).2.2.1.length≠0)∧(tlP c now).2=0 then ((tolds now n (clCn c (flR c.Conn now).1)).1,(tlP c now).1 :: (tolds now n (clCn c (flR c.Conn now).1)).2) else (c,[]):=rfl
structure CI (B:Nat) (c:DClient):Prop where
  j:HJ c.Conn
  l:HL B c.Conn
  p:I64 c.Peer
  i:I64 c.Id
  w:U64 c.Word
  t:c.Token.length≤1048576
  o:0≤c.To∧c.To≤255
  k:U64 c.Key
theorem CI.cn {B:Nat} {c:DClient} {n:DConn} (h:CI B c) (hj:HJ n) (hl:HL B n):CI B (clCn c n):=⟨hj,hl,h.p,h.i,h.w,h.t,h.o,h.k⟩
theorem CI.wf {B:Nat} {c:DClient} (h:CI B c) (hB:B≤16777216):W.wfClient c:=by
  have ho:=h.o
  exact ⟨h.p,h.i,h.w,by have:=h.t;omega,by unfold I64;omega,h.k,HI_wf h.j h.l hB⟩
theorem clChk {c:DClient} (h0:clFlt c=0) (hu:U.wfClient c):CI 4194304 c:=by
  unfold clFlt at h0
  split at h0
  · rename_i hy
    have hk:=yes_t.1 hy
    unfold clOk at hk
    obtain ⟨u1,u2,u3,u4,u5,u6,u7⟩:=hu
    obtain ⟨a1,a2⟩:=chk_I hk.2.1 u7
    exact ⟨a1,a2,u1,u2,u3,by omega,hk.1.2.1,u6⟩
  · cases h0
theorem tolds_I {B:Nat} {now:Int} (hB:B≤16777216):∀ (n:Nat) {c:DClient},CI B c→CI B (tolds now n c).1∧(tolds now n c).2.length≤n
  | 0,c,h=>⟨h,by unfold tolds;simp⟩
  | n+1,c,h=>by
    rw [tolds_s]
    split
    · rename_i hh
      have hf:=flR_I (now:=now) h.j h.l hB hh.1.2.1
      obtain ⟨a1,a2⟩:=tolds_I hB n (h.cn hf.j hf.l)
      exact ⟨a1,by dsimp only;rw [List.length_cons];omega⟩
    · exact ⟨h,by simp⟩
noncomputable def clAskR (c:DClient) (now:Int) (b:List UInt8):DClient×Int×List (List UInt8)×Int:=
  if clFlt c=0 then (if 0≤now∧now≤1099511627776 then
    (if (cnOpenR c.Conn).2.2=0 then
      (if (cnWriteR (cnOpenR c.Conn).1 (cnOpenR c.Conn).2.1 b true).2=0 then
        ((tolds now 3 (clCn c (cnWriteR (cnOpenR c.Conn).1 (cnOpenR c.Conn).2.1 b true).1)).1,(cnOpenR c.Conn).2.1,(tolds now 3 (clCn c (cnWriteR (cnOpenR c.Conn).1 (cnOpenR c.Conn).2.1 b true).1)).2,0)
      else (c,0,[],(cnWriteR (cnOpenR c.Conn).1 (cnOpenR c.Conn).2.1 b true).2))
    else (c,0,[],(cnOpenR c.Conn).2.2)) else (default,0,[],6)) else (default,0,[],clFlt c)
noncomputable def clTickR (c:DClient) (now:Int):DClient×List (List UInt8)×Int:=
  if clFlt c=0 then (if (tickR c.Conn now).2=0 then ((tolds now 3 (clCn c (tickR c.Conn now).1)).1,(tolds now 3 (clCn c (tickR c.Conn now).1)).2,0) else (default,[],(tickR c.Conn now).2)) else (default,[],clFlt c)
def encBs (b:List UInt8):List V:=[.ro (b.map encB)]
end Go.Proofs.YtendheafcbickaaGreat


set_option linter.unusedVariables false
set_option linter.unusedSimpArgs false
set_option linter.unusedVariables false
namespace Go.Proofs.YtendheafcbickaaGreat
set_option maxRecDepth 100000
attribute [local irreducible] Run RunL QStep GStep Fn Less PL FnM
def stR (g:FS→FS) (z:FS):FS:=if ¬ z.2.2=0 then z else g z
def stL (c:UInt8) (z:FS):FS:=
  if (c.toNat:Int)=105 then sId z else if (c.toNat:Int)=111 then sOf z else if (c.toNat:Int)=99 then sCo z else if (c.toNat:Int)=119 then sWo z else if (c.toNat:Int)=100 then sDa z else z
def foldR:List UInt8→FS→FS
  | [],z=>z
  | c :: l,z=>foldR l (stR (stL c) z)
def Eqv (z w:FS):Prop:=z=w∨(¬ z.2.2=0∧z.2.2=w.2.2)
def Keeps (g:FS→FS):Prop:=∀ z,¬ z.2.2=0→(g z).2.2=z.2.2
theorem WkL.all:∀ {vs vs':List V},WkL vs vs' → vs.length=vs'.length ∧ ∀ j,j<vs.length→Wk (cAt vs j) (cAt vs' j)
  | _,_,.nil=>⟨rfl,fun j hj=>by simp at hj⟩
  | _,_,.cons h hs=>by
    obtain ⟨e,ih⟩:=WkL.all hs
    refine ⟨by simp [e],fun j hj=>?_⟩
    cases j with
    | zero=>exact h
    | succ j=>rw [cAt_succ,cAt_succ];exact ih j (by simpa using hj)
theorem fn_wk {P:Program} {f:FuncId} {vs vs':List V} {r:V} (h:Fn P f vs' r) (hw:WkL vs vs'):Fn P f vs r:=by
  obtain ⟨e,hj⟩:=hw.all
  unfold Fn at *
  refine ⟨h.1,fun w S vals h1 h2 h3=>h.2 w S vals (by rw [h1,e]) h2 (fun j hl=>?_)⟩
  exact (hj j (by omega)).rel (h3 j (by omega))
end Go.Proofs.YtendheafcbickaaGreat
