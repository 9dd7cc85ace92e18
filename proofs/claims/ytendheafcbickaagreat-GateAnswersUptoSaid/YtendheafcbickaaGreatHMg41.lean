/-
  SEVERAL TEXTS IN ONE: each with its own comment.
-/
import Derived.Test.YtendheafcbickaaGreatHZip
import Derived.Test.YtendheafcbickaaGreatHGo
import Derived.Test.YtendheafcbickaaGreatHGtP
import Derived.Test.YtendheafcbickaaGreatHMg27
import Derived.Test.YtendheafcbickaaGreatHMg20
import Derived.Test.YtendheafcbickaaGreatHCnF
import Derived.Test.YtendheafcbickaaGreatHMg16
import Derived.Test.YtendheafcbickaaGreatHFlI
import Derived.Test.YtendheafcbickaaGreatHGtC
import Derived.Test.YtendheafcbickaaGreatHMg34
import Derived.Test.YtendheafcbickaaGreatHFrF

set_option linter.unusedVariables false
set_option linter.unusedSimpArgs false
set_option linter.unusedVariables false
namespace Go.Proofs.YtendheafcbickaaGreat
set_option maxRecDepth 100000
attribute [local irreducible] Run RunL QStep GStep Fn Less PL FnM
theorem wrapN {n:Nat} (h:n<9223372036854775808):IntKind.i64.wrap (n:Int)=(n:Int):=by rw [IntKind.wrap_i64];omega
set_option maxHeartbeats 8000000 in
theorem packetOf_fn (key:Int) (h:DHead) (n acked:Int) (l:List DFrame) (hw:wfHead h) (hn:I64 n) (ha:I64 acked) (hl:∀ f ∈ l,wfFrame f) (hll:l.length≤1048576):Fn Tryz.prog 109 [.lit (.int .u64 key),.agg (encHead h),.lit (.int .i64 n),.lit (.int .i64 acked),.ro (l.map encFrame)] (encPk (pktR key h n acked l)):=by
  have h1:=cutNumber_fn n acked hn ha
  have hcl:=cutR_len (n:=n) (d:=acked)
  unfold pktR encPk
  unfold encCut at h1
  generalize cutR n acked=c at *
  obtain ⟨c,ce⟩:=c
  dsimp only at *
  by_cases c0:ce=0
  · subst c0
    rw [if_neg (by omega)]
    have hw2:=pkH_wf hw hcl
    have h2:=num_fn c (by omega)
    have hg:=numG_lt 0 c
    have hp:(0+1) * 256 ^ c.length≤1 * 256 ^ 4:=Nat.mul_le_mul (by omega) (Nat.pow_le_pow_right (by omega) (by omega))
    have h7:1 * (256:Nat) ^ 4=4294967296:=by decide
    obtain ⟨K,T,F,tok,N,S⟩:=h
    unfold pkH at *
    unfold encHead
    dsimp only at *
    generalize hH:(⟨K,T,F,tok,((numG 0 c:Nat):Int),(c.length:Int)⟩:DHead)=H at *
    have hC:encHead H=[.lit (.int .i64 K),.lit (.int .i64 T),.lit (.int .i64 F),.ro (tok.map encB),.lit (.int .i64 ((numG 0 c:Nat):Int)),.lit (.int .i64 c.length)]:=by rw [← hH];rfl
    have h3:=headFault_fn H hw2
    rw [hC] at h3
    have hwn:=wrapN (n:=numG 0 c) (by omega)
    generalize numG 0 c=m at *
    clear hp h7
    by_cases hf:hdFlt H=0
    · rw [if_neg (by omega)]
      rw [hf] at h3
      have h4:=headText_fn H hf
      rw [hC] at h4
      have hbl:=hdB_len hf
      generalize hdB H=hb at *
      have hz:frsFlt (l.drop 0)=frsFlt l:=rfl
      generalize hE:frsFlt l=E at *
      refine fn_of_run (by kernel_rfl) Tryz.func109 rfl (by kernel_rfl) ?_
      (repeat' first|(refine s_call (h1) (h:=?_))|(refine p_call (h1) (h:=?_))|(refine s_call (h2) (h:=?_))|(refine p_call (h2) (h:=?_))|(refine go_ ?_;((repeat' first|exact True.intro|refine Two.mk ?_ ?_);all_goals intros))|fail "")
      rw [hwn]
      (repeat' first|(refine s_call (h3) (h:=?_))|(refine p_call (h3) (h:=?_))|(refine go_ ?_;((repeat' first|exact True.intro|refine Two.mk ?_ ?_);all_goals intros))|fail "")
      refine r_for (fun x:Nat×List UInt8=>⟨[(0,.lit (.int .u64 key)),(2,.lit (.int .i64 n)),(6,.ptr 0 0 0 0),(15,.lit (.string (strB x.2))),(42,.ro (l.map encFrame)),(43,.lit (.int .i64 l.length)),(44,.lit (.int .i64 x.1))],[(0,some (.box 138 [.lit (.int .i64 K),.lit (.int .i64 T),.lit (.int .i64 F),.ro (tok.map encB),.lit (.int .i64 (m:Int)),.lit (.int .i64 c.length)]))],1,Tryz.f109.ntmps⟩)
        (fun x=>x.1≤l.length∧frsFlt (l.drop x.1)=E∧x.2=frsB (l.take x.1)∧x.2.length≤1000 * x.1) (fun x=>l.length - x.1) (0,[]) ⟨Nat.zero_le _,hz,rfl,Nat.zero_le _⟩ less_to ?_
      rintro ⟨k,tx⟩ ⟨hk,hke,htx,hkl⟩
      dsimp only at hk hke htx hkl ⊢
      by_cases hkn:k<l.length
      · obtain ⟨q1,q2⟩:=frs_step hkn hke
        have hfw:=hl _ (getD_mem hkn)
        have hbs:=frsB_step hkn
        have g1:=frameFault_fn _ hfw
        by_cases hff:frFlt (l.getD k default)=0
        · have g2:=frameText_fn _ hff
          have g3:=frB_len hff
          have q2:=q2 hff
          rw [hff] at g1
          rw [← htx] at hbs
          generalize frB (l.getD k default)=fb at *
          have hnl:(tx++fb).length≤1000 * (k+1):=by rw [List.length_append];omega
          (repeat' first|(refine s_call (g1) (h:=?_))|(refine p_call (g1) (h:=?_))|(refine s_call (g2) (h:=?_))|(refine p_call (g2) (h:=?_))|(refine go_ ?_;((repeat' first|exact True.intro|refine Two.mk ?_ ?_);all_goals intros))|fail "")
          all_goals first
            | (refine ⟨(k+1,tx++fb),?_,?_,?_⟩;rotate_left 2;(exact lessA_);(exact Z66_);(focus (exact ⟨hkn,q2,hbs.symm,hnl⟩)))
            | skip
        · have q1:=q1 hff
          rw [← q1] at g1 hff
          rw [if_pos hff]
          (repeat' first|(refine s_call (g1) (h:=?_))|(refine p_call (g1) (h:=?_))|(refine go_ ?_;((repeat' first|exact True.intro|refine Two.mk ?_ ?_);all_goals intros))|fail "")
          all_goals first
            | (exact endwA_)
            | skip
      · have hkl2:k=l.length:=by omega
        subst hkl2
        rw [List.drop_length] at hke
        have hE0:E=0:=hke.symm
        subst hE0
        rw [if_neg (by omega)]
        rw [List.take_length] at htx
        rw [← htx]
        have g3:=locked_fn key n hb tx (by omega) (by omega)
        have g4:(sealB key n hb tx).length=tx.length+8:=by unfold sealB;rw [List.length_append,turnB_length,tagB_length]
        generalize sealB key n hb tx=sb at *
        by_cases hs:400<hb.length+tx.length+8
        · rw [if_pos hs]
          (repeat' first|(refine s_call (h4) (h:=?_))|(refine p_call (h4) (h:=?_))|(refine s_call (g3) (h:=?_))|(refine p_call (g3) (h:=?_))|(refine go_ ?_;((repeat' first|exact True.intro|refine Two.mk ?_ ?_);all_goals intros))|fail "")
          all_goals first
            | (exact endwA_)
            | skip
        · rw [if_neg hs]
          (repeat' first|(refine s_call (h4) (h:=?_))|(refine p_call (h4) (h:=?_))|(refine s_call (g3) (h:=?_))|(refine p_call (g3) (h:=?_))|(refine go_ ?_;((repeat' first|exact True.intro|refine Two.mk ?_ ?_);all_goals intros))|fail "")
          all_goals first
            | (exact endwA_)
            | skip
    · rw [if_pos hf]
      generalize hdFlt H=e at *
      refine fn_of_run (by kernel_rfl) Tryz.func109 rfl (by kernel_rfl) ?_
      (repeat' first|(refine s_call (h1) (h:=?_))|(refine p_call (h1) (h:=?_))|(refine s_call (h2) (h:=?_))|(refine p_call (h2) (h:=?_))|(refine go_ ?_;((repeat' first|exact True.intro|refine Two.mk ?_ ?_);all_goals intros))|fail "")
      rw [hwn]
      (repeat' first|(refine s_call (h3) (h:=?_))|(refine p_call (h3) (h:=?_))|(refine go_ ?_;((repeat' first|exact True.intro|refine Two.mk ?_ ?_);all_goals intros))|fail "")
      all_goals first
        | (exact endwA_)
        | skip
  · rw [if_pos c0]
    refine fn_of_run (by kernel_rfl) Tryz.func109 rfl (by kernel_rfl) ?_
    (repeat' first|(refine s_call (h1) (h:=?_))|(refine p_call (h1) (h:=?_))|(refine go_ ?_;((repeat' first|exact True.intro|refine Two.mk ?_ ?_);all_goals intros))|fail "")
    all_goals first
      | (exact endwA_)
      | skip
end Go.Proofs.YtendheafcbickaaGreat


set_option linter.unusedVariables false
set_option linter.unusedSimpArgs false
set_option linter.unusedVariables false
namespace Go.Proofs.YtendheafcbickaaGreat
set_option maxRecDepth 100000
attribute [local irreducible] Run RunL QStep GStep Fn Less PL FnM
def clOk (c:DClient):Prop:=(((0≤c.Peer∧c.Peer≤3)∧0≤c.Id∧c.Id≤255)∧(0≤c.To∧c.To≤255)∧c.Token.length≤120)∧cnFlt c.Conn=0∧c.Conn.Client=true
noncomputable def clFlt (c:DClient):Int:=if yes (clOk c)=true then 0 else 9
def clBegR (peer id word now:Int):DClient×Int:=if ((0≤peer∧peer≤3)∧0≤id∧id≤255)∧0≤now∧now≤1099511627776 then (⟨peer,id,word,[],0,0,(cnBegR true now).1⟩,0) else (default,6)
def encClE (r:DClient×Int):V:=.tup [.agg (encClient r.1),.lit (.int .i64 r.2)]
def helloF (w:Int):DFrame:=⟨6,0,0,false,0,[],bigB w.toNat 8⟩
def iniH (c:DClient):DHead:=⟨0,0,c.Id,c.Token,0,0⟩
noncomputable def clHelR (c:DClient):List UInt8×Int:=if clFlt c=0 then pktR (keyV 1 c.Id) (iniH c) 0 (-1) [helloF c.Word] else ([],clFlt c)
def helloRaw (m:Nat):List V:=[.lit (.int .i64 6),.lit (.int .i64 0),.lit (.int .i64 0),.lit (.bool false),.lit (.int .i64 0),.lit (.slice none 0 0),.ro ((bigB m 8).map encB)]
end Go.Proofs.YtendheafcbickaaGreat


set_option linter.unusedVariables false
set_option linter.unusedSimpArgs false
set_option linter.unusedVariables false
namespace Go.Proofs.YtendheafcbickaaGreat
set_option maxRecDepth 100000
noncomputable def wayV (k:Int) (up:Bool):Int:=if up=true then mixV k else mixV (bitsI .xor .u64 IntKind.u64.max k)
def shH (to:Int):DHead:=⟨2,to,0,[],0,0⟩
theorem shH_wf {to:Int} (h:I64 to):wfHead (shH to):=by
  unfold shH wfHead
  exact ⟨by unfold I64;dsimp only;omega,h,by unfold I64;dsimp only;omega,by simp,by unfold I64;dsimp only;omega,by unfold I64;dsimp only;omega⟩
theorem pktR_len (key:Int) (h:DHead) (n a:Int) (l:List DFrame):(pktR key h n a l).1.length≤400:=by
  unfold pktR
  split
  · simp
  · split
    · simp
    · split
      · simp
      · split
        · simp
        · unfold sealB
          rw [List.length_append,List.length_append,turnB_length,tagB_length]
          omega
noncomputable def tlP (c:DClient) (now:Int):List UInt8×Int:=pktR (wayV c.Key true) (shH c.To) (flR c.Conn now).2.1 c.Conn.Space.Top (flR c.Conn now).2.2.1
def clCn (c:DClient) (n:DConn):DClient:={ c with Conn:=n }
noncomputable def tolds (now:Int):Nat→DClient→DClient×List (List UInt8)
  | 0,c=>(c,[])
  | n+1,c=>if (c.To≠0∧(flR c.Conn now).2.2.2=0∧(flR c.Conn now).2.2.1.length≠0)∧(tlP c now).2=0 then ((tolds now n (clCn c (flR c.Conn now).1)).1,(tlP c now).1 :: (tolds now n (clCn c (flR c.Conn now).1)).2) else (c,[])
structure CI (B:Nat) (c:DClient):Prop where
  j:HJ c.Conn
  l:HL B c.Conn
  p:I64 c.Peer
  i:I64 c.Id
  w:U64 c.Word
  t:c.Token.length≤1048576
  o:0≤c.To∧c.To≤255
  k:U64 c.Key
theorem CI.wf {B:Nat} {c:DClient} (h:CI B c) (hB:B≤16777216):W.wfClient c:=by
  have ho:=h.o
  exact ⟨h.p,h.i,h.w,by have:=h.t;omega,by unfold I64;omega,h.k,HI_wf h.j h.l hB⟩
noncomputable def clAskR (c:DClient) (now:Int) (b:List UInt8):DClient×Int×List (List UInt8)×Int:=
  if clFlt c=0 then (if 0≤now∧now≤1099511627776 then
    (if (cnOpenR c.Conn).2.2=0 then
      (if (cnWriteR (cnOpenR c.Conn).1 (cnOpenR c.Conn).2.1 b true).2=0 then
        ((tolds now 3 (clCn c (cnWriteR (cnOpenR c.Conn).1 (cnOpenR c.Conn).2.1 b true).1)).1,(cnOpenR c.Conn).2.1,(tolds now 3 (clCn c (cnWriteR (cnOpenR c.Conn).1 (cnOpenR c.Conn).2.1 b true).1)).2,0)
      else (c,0,[],(cnWriteR (cnOpenR c.Conn).1 (cnOpenR c.Conn).2.1 b true).2))
    else (c,0,[],(cnOpenR c.Conn).2.2)) else (default,0,[],6)) else (default,0,[],clFlt c)
noncomputable def clTickR (c:DClient) (now:Int):DClient×List (List UInt8)×Int:=
  if clFlt c=0 then (if (tickR c.Conn now).2=0 then ((tolds now 3 (clCn c (tickR c.Conn now).1)).1,(tolds now 3 (clCn c (tickR c.Conn now).1)).2,0) else (default,[],(tickR c.Conn now).2)) else (default,[],clFlt c)
def encBs (b:List UInt8):List V:=[.ro (b.map encB)]
end Go.Proofs.YtendheafcbickaaGreat


set_option linter.unusedVariables false
set_option linter.unusedSimpArgs false
set_option linter.unusedVariables false
namespace Go.Proofs.YtendheafcbickaaGreat
set_option maxRecDepth 100000
def gtSetT (g:DGate) (i:Nat) (t:DTally):DGate:=
  match i with
  | 0=>{ g with Tally0:=t }
  | 1=>{ g with Tally1:=t }
  | 2=>{ g with Tally2:=t }
  | _=>{ g with Tally3:=t }
def sendR (g:DGate) (p:Int) (b:List UInt8):DGate×Bool:=if (tSend (gtTal g p.toNat) b.length).2=0 then (gtSetT g p.toNat (tSend (gtTal g p.toNat) b.length).1,true) else (g,false)
noncomputable def ntPk (n:DNote) (now:Int):List UInt8×Int:=pktR (wayV n.Key false) (shH n.From) (flR n.Conn now).2.1 n.Conn.Space.Top (flR n.Conn now).2.2.1
def ntCn (n:DNote) (c:DConn):DNote:={ n with Conn:=c }
noncomputable def ntTell (now:Int):Nat→DNote→DGate→List DMail→DNote×DGate×List DMail
  | 0,n,g,o=>(n,g,o)
  | k+1,n,g,o=>if ((flR n.Conn now).2.2.2=0∧(flR n.Conn now).2.2.1.length≠0∧n.Ready=true)∧(ntPk n now).2=0∧(sendR g n.Peer (ntPk n now).1).2=true then ntTell now k (ntCn n (flR n.Conn now).1) (sendR g n.Peer (ntPk n now).1).1 (o++[⟨n.Peer,(ntPk n now).1⟩]) else (n,g,o)
theorem ntTell_s (now:Int) (k:Nat) (n:DNote) (g:DGate) (o:List DMail):ntTell now (k+1) n g o=if ((flR n.Conn now).2.2.2=0∧(flR n.Conn now).2.2.1.length≠0∧n.Ready=true)∧(ntPk n now).2=0∧(sendR g n.Peer (ntPk n now).1).2=true then ntTell now k (ntCn n (flR n.Conn now).1) (sendR g n.Peer (ntPk n now).1).1 (o++[⟨n.Peer,(ntPk n now).1⟩]) else (n,g,o):=rfl
noncomputable def ntAll (now:Int):List DNote→DGate→List DMail→List DNote→DGate×List DMail×List DNote
  | [],g,o,l=>(g,o,l)
  | n :: r,g,o,l=>ntAll now r (ntTell now 3 n g o).2.1 (ntTell now 3 n g o).2.2 (if (ntTell now 3 n g o).1.Conn.Closed=true then l else l++[(ntTell now 3 n g o).1])
def gtNts (g:DGate) (l:List DNote):DGate:={ g with Notes:=l }
noncomputable def gtFl (g:DGate) (o:List DMail):DGate×List DMail:=(gtNts (ntAll g.Now g.Notes g o []).1 (ntAll g.Now g.Notes g o []).2.2,(ntAll g.Now g.Notes g o []).2.1)
structure NI (B:Nat) (n:DNote):Prop where
  j:HJ n.Conn
  l:HL B n.Conn
  i:I64 n.Id
  f:0≤n.From∧n.From≤255
  p:0≤n.Peer∧n.Peer≤3
  k:U64 n.Key
structure GJ (g:DGate):Prop where
  s:U64 g.Secret
  n:0≤g.Now∧g.Now≤1099511627776
  x:I64 g.Next
  t0:tOk g.Tally0
  t1:tOk g.Tally1
  t2:tOk g.Tally2
  t3:tOk g.Tally3
  h:I64 g.Shed
structure GL (B:Nat) (l:List DNote):Prop where
  k:l.length≤3
  n:∀ y ∈ l,NI B y
theorem NI.cn {B:Nat} {n:DNote} {c:DConn} (h:NI B n) (hj:HJ c) (hl:HL B c):NI B (ntCn n c):=⟨hj,hl,h.i,h.f,h.p,h.k⟩
theorem NI.wf {B:Nat} {n:DNote} (h:NI B n) (hB:B≤16777216):W.wfNote n:=by
  have hf:=h.f
  have hp:=h.p
  exact ⟨h.i,by unfold I64;omega,by unfold I64;omega,h.k,HI_wf h.j h.l hB⟩
theorem tOk_wf {t:DTally} (h:tOk t):wfTally t:=by
  unfold tOk at h
  unfold wfTally I64
  omega
theorem GJ.tal {g:DGate} (h:GJ g) (i:Nat):tOk (gtTal g i):=by
  match i with
  | 0=>exact h.t0
  | 1=>exact h.t1
  | 2=>exact h.t2
  | n+3=>exact h.t3
theorem GJ.setT {g:DGate} {t:DTally} (h:GJ g) (ht:tOk t) (i:Nat):GJ (gtSetT g i t):=by
  match i with
  | 0=>exact ⟨h.s,h.n,h.x,ht,h.t1,h.t2,h.t3,h.h⟩
  | 1=>exact ⟨h.s,h.n,h.x,h.t0,ht,h.t2,h.t3,h.h⟩
  | 2=>exact ⟨h.s,h.n,h.x,h.t0,h.t1,ht,h.t3,h.h⟩
  | n+3=>exact ⟨h.s,h.n,h.x,h.t0,h.t1,h.t2,ht,h.h⟩
theorem tSend_ok {t:DTally} {n:Int} (h:(tSend t n).2=0):tOk (tSend t n).1:=by
  unfold tSend at *
  split
  · rename_i h1;rw [if_pos h1] at h;exact absurd h h1
  · rename_i h1
    rw [if_neg h1] at h
    unfold tArg at h1
    split
    · rename_i h2;rw [if_pos h2] at h;cases h
    · rename_i h2
      rw [if_neg h2] at h
      split
      · rename_i h3;rw [if_pos h3] at h;cases h
      · rename_i h3
        by_cases hk:tOk t
        · rw [if_pos hk] at h1
          by_cases hn:0≤n∧n≤400
          · unfold tOk at *
            dsimp only
            refine ⟨hk.1,hk.2.1,by omega,by omega,?_⟩
            cases hkk:t.Known
            · exact .inr (by have:¬ 3 * t.Got<t.Sent+n:=fun q=>h3 ⟨hkk,q⟩;omega)
            · exact .inl rfl
          · rw [if_neg hn] at h1;exact absurd (by decide) h1
        · rw [if_neg hk] at h1;exact absurd (by decide) h1
theorem gtSetT_notes (g:DGate) (i:Nat) (t:DTally):(gtSetT g i t).Notes=g.Notes∧(gtSetT g i t).Now=g.Now:=by
  match i with
  | 0|1|2|n+3=>exact ⟨rfl,rfl⟩
theorem sendR_I {g:DGate} {p:Int} {b:List UInt8} (h:GJ g):GJ (sendR g p b).1∧(sendR g p b).1.Notes=g.Notes∧(sendR g p b).1.Now=g.Now:=by
  unfold sendR
  split
  · rename_i h0
    exact ⟨h.setT (tSend_ok h0) _,gtSetT_notes _ _ _⟩
  · exact ⟨h,rfl,rfl⟩
theorem ntTell_I {B:Nat} {now:Int} (hB:B≤16777216):∀ (k:Nat) {n:DNote} {g:DGate} {o:List DMail},NI B n→GJ g→NI B (ntTell now k n g o).1∧GJ (ntTell now k n g o).2.1∧(ntTell now k n g o).2.1.Notes=g.Notes∧(ntTell now k n g o).2.1.Now=g.Now∧(ntTell now k n g o).2.2.length≤o.length+k∧(ntTell now k n g o).1.Id=n.Id
  | 0,n,g,o,h,hg=>⟨h,hg,rfl,rfl,by unfold ntTell;simp,rfl⟩
  | k+1,n,g,o,h,hg=>by
    rw [ntTell_s]
    split
    · rename_i hh
      have hf:=flR_I (now:=now) h.j h.l hB hh.1.1
      obtain ⟨s1,s2,s3⟩:=sendR_I (p:=n.Peer) (b:=(ntPk n now).1) hg
      obtain ⟨a1,a2,a3,a4,a5,a6⟩:=ntTell_I hB k (o:=o++[⟨n.Peer,(ntPk n now).1⟩]) (h.cn hf.j hf.l) s1
      rw [List.length_append,List.length_singleton] at a5
      exact ⟨a1,a2,by rw [a3,s2],by rw [a4,s3],by omega,a6⟩
    · exact ⟨h,hg,rfl,rfl,by simp,rfl⟩
theorem ntAll_I {B:Nat} {now:Int} (hB:B≤16777216):∀ (r:List DNote) {g:DGate} {o:List DMail} {l:List DNote},(∀ y ∈ r,NI B y)→GJ g→(∀ y ∈ l,NI B y) →
    GJ (ntAll now r g o l).1∧(∀ y ∈ (ntAll now r g o l).2.2,NI B y)∧(ntAll now r g o l).2.2.length≤l.length+r.length∧(ntAll now r g o l).2.1.length≤o.length+3 * r.length∧(ntAll now r g o l).1.Now=g.Now
  | [],g,o,l,_,hg,hl=>⟨hg,hl,by simp [ntAll],by simp [ntAll],rfl⟩
  | n :: r,g,o,l,hr,hg,hl=>by
    obtain ⟨a1,a2,a3,a4,a5,a6⟩:=ntTell_I (now:=now) hB 3 (o:=o) (hr n List.mem_cons_self) hg
    unfold ntAll
    have hl2:∀ y ∈ (if (ntTell now 3 n g o).1.Conn.Closed=true then l else l++[(ntTell now 3 n g o).1]),NI B y:=fun y hy=>by
      split at hy
      · exact hl y hy
      · rcases List.mem_append.1 hy with hy|hy
        · exact hl y hy
        · rw [List.mem_singleton] at hy;exact hy ▸ a1
    have hlen:(if (ntTell now 3 n g o).1.Conn.Closed=true then l else l++[(ntTell now 3 n g o).1]).length≤l.length+1:=by
      split
      · omega
      · simp
    obtain ⟨b1,b2,b3,b4,b5⟩:=ntAll_I hB r (o:=(ntTell now 3 n g o).2.2) (fun y hy=>hr y (List.mem_cons_of_mem _ hy)) a2 hl2
    rw [List.length_cons]
    exact ⟨b1,b2,by omega,by omega,by rw [b5,a4]⟩
theorem gtChk {g:DGate} (h0:gtFlt g=0) (hu:U.wfGate g):GJ g∧GL 4194304 g.Notes∧1≤g.Next∧g.Next≤256∧0≤g.Shed∧g.Shed≤1099511627776:=by
  unfold gtFlt at h0
  split at h0
  · rename_i hy
    obtain ⟨⟨hn,ht⟩,hk⟩:=yes_t.1 hy
    unfold gtNum at hn
    obtain ⟨u1,u2,u3,u4,u5,u6,u7,u8,u9,u10⟩:=hu
    have tk:∀ i,i<4→tOk (gtTal g i):=fun i hi=>Classical.byContradiction fun q=>by
      have:=ht i hi
      dsimp only at this
      unfold tFlt at this
      rw [if_neg q] at this;cases this
    refine ⟨⟨u1,hn.1,u3,tk 0 (by omega),tk 1 (by omega),tk 2 (by omega),tk 3 (by omega),u10⟩,⟨hn.2.2.1,fun y hy=>?_⟩,hn.2.1.1,hn.2.1.2,hn.2.2.2.1,hn.2.2.2.2⟩
    obtain ⟨i,hi,rfl⟩:=List.getElem_of_mem hy
    have hh:=hk i hi
    unfold ntOk at hh
    rw [List.getD_eq_getElem?_getD,List.getElem?_eq_getElem hi] at hh
    dsimp only [Option.getD_some] at hh
    obtain ⟨v1,v2,v3,v4,v5⟩:=u5 _ hy
    obtain ⟨a1,a2⟩:=chk_I hh.2.1 v5
    exact ⟨a1,a2,v1,hh.1.2.2.1,hh.1.2.2.2,v4⟩
  · cases h0
theorem gtFl_I {B:Nat} {g:DGate} {o:List DMail} (hB:B≤16777216) (hg:GJ g) (hl:GL B g.Notes):GJ (gtFl g o).1∧GL B (gtFl g o).1.Notes∧(gtFl g o).2.length≤o.length+9:=by
  obtain ⟨b1,b2,b3,b4,b5⟩:=ntAll_I (now:=g.Now) hB g.Notes (o:=o) (l:=[]) hl.n hg (fun y hy=>by cases hy)
  have hk:=hl.k
  simp only [List.length_nil] at b3
  unfold gtFl gtNts
  exact ⟨⟨b1.s,b1.n,b1.x,b1.t0,b1.t1,b1.t2,b1.t3,b1.h⟩,⟨by dsimp only;omega,b2⟩,by dsimp only;omega⟩
def ntIx (ask:DNote→Bool):List DNote→Nat
  | []=>0
  | n :: l=>if ask n=true then 0 else ntIx ask l+1
def gtSetN (g:DGate) (i:Nat) (n:DNote):DGate:={ g with Notes:=g.Notes.set i n }
noncomputable def gtAnsR (g:DGate) (id lane:Int) (b:List UInt8):DGate×List DMail×Int:=
  if gtFlt g=0 then
    (if ntIx (fun n=>decide (n.Id=id)) g.Notes<g.Notes.length then
      (if (cnWriteR (g.Notes.getD (ntIx (fun n=>decide (n.Id=id)) g.Notes) default).Conn lane b true).2=0 then
        ((gtFl (gtSetN g (ntIx (fun n => decide (n.Id = id)) g.Notes) (ntCn (g.Notes.getD (ntIx (fun n => decide (n.Id = id)) g.Notes) default) (cnWriteR (g.Notes.getD (ntIx (fun n => decide (n.Id = id)) g.Notes) default).Conn lane b true).1)) []).1,
         (gtFl (gtSetN g (ntIx (fun n=>decide (n.Id=id)) g.Notes) (ntCn (g.Notes.getD (ntIx (fun n=>decide (n.Id=id)) g.Notes) default) (cnWriteR (g.Notes.getD (ntIx (fun n=>decide (n.Id=id)) g.Notes) default).Conn lane b true).1)) []).2,0)
      else (g,[],(cnWriteR (g.Notes.getD (ntIx (fun n=>decide (n.Id=id)) g.Notes) default).Conn lane b true).2))
    else (g,[],5)) else (default,[],gtFlt g)
noncomputable def ntTick (now:Int) (n:DNote):DNote:=ntCn n (tickR n.Conn now).1
def gtNow (g:DGate) (t:Int):DGate:={ g with Now:=t }
noncomputable def gtTickR (g:DGate) (n:Int):DGate×List DMail×Int:=
  if gtFlt g=0 then (if (1≤n∧n≤60)∧g.Now+n≤1099511627776 then
    ((gtFl (gtNts (gtNow g (g.Now+n)) (g.Notes.map (ntTick (g.Now+n)))) []).1,(gtFl (gtNts (gtNow g (g.Now+n)) (g.Notes.map (ntTick (g.Now+n)))) []).2,0)
    else (default,[],6)) else (default,[],gtFlt g)
end Go.Proofs.YtendheafcbickaaGreat


set_option linter.unusedVariables false
set_option linter.unusedSimpArgs false
set_option linter.unusedVariables false
namespace Go.Proofs.YtendheafcbickaaGreat
set_option maxRecDepth 100000
attribute [local irreducible] Run RunL QStep GStep Fn Less PL FnM
def stR (g:FS→FS) (z:FS):FS:=if ¬ z.2.2=0 then z else g z
def stL (c:UInt8) (z:FS):FS:=
  if (c.toNat:Int)=105 then sId z else if (c.toNat:Int)=111 then sOf z else if (c.toNat:Int)=99 then sCo z else if (c.toNat:Int)=119 then sWo z else if (c.toNat:Int)=100 then sDa z else z
def foldR:List UInt8→FS→FS
  | [],z=>z
  | c :: l,z=>foldR l (stR (stL c) z)
def Eqv (z w:FS):Prop:=z=w∨(¬ z.2.2=0∧z.2.2=w.2.2)
def Keeps (g:FS→FS):Prop:=∀ z,¬ z.2.2=0→(g z).2.2=z.2.2
theorem WkL.all:∀ {vs vs':List V},WkL vs vs' → vs.length=vs'.length ∧ ∀ j,j<vs.length→Wk (cAt vs j) (cAt vs' j)
  | _,_,.nil=>⟨rfl,fun j hj=>by simp at hj⟩
  | _,_,.cons h hs=>by
    obtain ⟨e,ih⟩:=WkL.all hs
    refine ⟨by simp [e],fun j hj=>?_⟩
    cases j with
    | zero=>exact h
    | succ j=>rw [cAt_succ,cAt_succ];exact ih j (by simpa using hj)
theorem fn_wk {P:Program} {f:FuncId} {vs vs':List V} {r:V} (h:Fn P f vs' r) (hw:WkL vs vs'):Fn P f vs r:=by
  obtain ⟨e,hj⟩:=hw.all
  unfold Fn at *
  refine ⟨h.1,fun w S vals h1 h2 h3=>h.2 w S vals (by rw [h1,e]) h2 (fun j hl=>?_)⟩
  exact (hj j (by omega)).rel (h3 j (by omega))
end Go.Proofs.YtendheafcbickaaGreat
