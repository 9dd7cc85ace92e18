
import Derived.Test.YtendheafcbickaaGreatZip
import Derived.Test.YtendheafcbickaaGreatGo
import Derived.Test.YtendheafcbickaaGreatMg40
import Derived.Test.YtendheafcbickaaGreatCnFr
import Derived.Test.YtendheafcbickaaGreatFlC
import Derived.Test.YtendheafcbickaaGreatTkD
import Derived.Test.YtendheafcbickaaGreatCnX
import Derived.Test.YtendheafcbickaaGreatMg16
import Derived.Test.YtendheafcbickaaGreatMg28
set_option linter.unusedVariables false
set_option linter.unusedSimpArgs false
set_option linter.unusedVariables false
namespace Go.Proofs.YtendheafcbickaaGreat
set_option maxRecDepth 100000
attribute [local irreducible] Run RunL QStep GStep Fn Less PL FnM
theorem gWay_fn (k:Int) (up:Bool):Fn Tryz.prog 80 [.lit (.int .u64 k),.lit (.bool up)] (.lit (.int .u64 (wayV k up))):=by
  have h1:=fun x=>mix_fn x
  unfold wayV
  cases up
  · rw [if_neg (by decide)]
    refine fn_of_run (by kernel_rfl) Tryz.func80 rfl (by kernel_rfl) ?_
    (repeat' first|(refine s_call (h1 _) (h:=?_))|(refine p_call (h1 _) (h:=?_))|(refine go_ ?_;((repeat' first|exact True.intro|refine Two.mk ?_ ?_);all_goals intros))|fail "")
    all_goals first
      | (exact endwA_)
      | skip
  · rw [if_pos rfl]
    refine fn_of_run (by kernel_rfl) Tryz.func80 rfl (by kernel_rfl) ?_
    (repeat' first|(refine s_call (h1 _) (h:=?_))|(refine p_call (h1 _) (h:=?_))|(refine go_ ?_;((repeat' first|exact True.intro|refine Two.mk ?_ ?_);all_goals intros))|fail "")
    all_goals first
      | (exact endwA_)
      | skip
theorem wayKey_fn (k:Int) (up:Bool):Fn Tryz.prog 87 [.lit (.int .u64 k),.lit (.bool up)] (.lit (.int .u64 (wayV k up))):=by
  have h1:=fun x=>mixed_fn x
  unfold wayV
  cases up
  · rw [if_neg (by decide)]
    refine fn_of_run (by kernel_rfl) Tryz.func87 rfl (by kernel_rfl) ?_
    (repeat' first|(refine s_call (h1 _) (h:=?_))|(refine p_call (h1 _) (h:=?_))|(refine go_ ?_;((repeat' first|exact True.intro|refine Two.mk ?_ ?_);all_goals intros))|fail "")
    all_goals first
      | (exact endwA_)
      | skip
  · rw [if_pos rfl]
    refine fn_of_run (by kernel_rfl) Tryz.func87 rfl (by kernel_rfl) ?_
    (repeat' first|(refine s_call (h1 _) (h:=?_))|(refine p_call (h1 _) (h:=?_))|(refine go_ ?_;((repeat' first|exact True.intro|refine Two.mk ?_ ?_);all_goals intros))|fail "")
    all_goals first
      | (exact endwA_)
      | skip
def shRaw (to:Int):List V:=[.lit (.int .i64 2),.lit (.int .i64 to),.lit (.int .i64 0),.lit (.slice none 0 0),.lit (.int .i64 0),.lit (.int .i64 0)]
theorem shRaw_wk (to:Int):Wk (.agg (shRaw to)) (.agg (encHead (shH to))):=
  .agg (.cons (.refl _) (.cons (.refl _) (.cons (.refl _) (.cons .nil (.cons (.refl _) (.cons (.refl _) .nil))))))
theorem packetS_fn (key to n acked:Int) (l:List DFrame) (hto:I64 to) (hl:∀ f ∈ l,wfFrame f) (hll:l.length≤1048576):Fn Tryz.prog 102 [.lit (.int .u64 key),.agg (shRaw to),.lit (.int .i64 n),.lit (.int .i64 acked),.ro (l.map encFrame)] (encPk (pktR key (shH to) n acked l)):=
  fn_wk (packet_fn key (shH to) n acked l (shH_wf hto) hl hll) (.cons (.refl _) (.cons (shRaw_wk to) (.cons (.refl _) (.cons (.refl _) (.cons (.refl _) .nil)))))
theorem packetOfS_fn (key to n acked:Int) (l:List DFrame) (hto:I64 to) (hn:I64 n) (ha:I64 acked) (hl:∀ f ∈ l,wfFrame f) (hll:l.length≤1048576):Fn Tryz.prog 109 [.lit (.int .u64 key),.agg (shRaw to),.lit (.int .i64 n),.lit (.int .i64 acked),.ro (l.map encFrame)] (encPk (pktR key (shH to) n acked l)):=
  fn_wk (packetOf_fn key (shH to) n acked l (shH_wf hto) hn ha hl hll) (.cons (.refl _) (.cons (shRaw_wk to) (.cons (.refl _) (.cons (.refl _) (.cons (.refl _) .nil)))))
set_option maxHeartbeats 4000000 in
theorem clFresh_fn (c:DClient) (hw:wfClient c):Fn Tryz.prog 52 [.agg (encClient c)] (.agg (encClient c)):=by
  have h1:Fn Tryz.prog 60 [.agg (encConn c.Conn)] (.agg (encConn c.Conn)):=fn_of_fnm (fnm_ren (cfresh_fnm c.Conn hw.2.2.2.2.2.2) [] rfl rfl trivial)
  have ht:=hw.2.2.2.1
  clear hw
  refine fn_of_run (by kernel_rfl) Tryz.func52 rfl (by kernel_rfl) ?_
  (repeat' first|(refine s_call (h1) (h:=?_))|(refine p_call (h1) (h:=?_))|(refine s_appro (r:=c.Token.map encB) ?_ ?_ ?_ ?_ (h:=?_);(exact Z65_);(exact Z42_);(exact Z10_);(exact Z21_))|(refine p_appro (r:=c.Token.map encB) ?_ ?_ ?_ ?_ (h:=?_);(exact Z65_);(exact Z42_);(exact Z10_);(exact Z21_))|(refine go_ ?_;((repeat' first|exact True.intro|refine Two.mk ?_ ?_);all_goals intros))|fail "")
  all_goals first
    | (exact endwA_)
    | skip
def encTold (r:DClient×List (List UInt8)):V:=.tup [.agg (encClient r.1),.ro (r.2.map encBs)]
set_option maxHeartbeats 8000000 in
theorem clFlush_fn {B:Nat} (c:DClient) (now:Int) (hc:CI B c) (hB:B≤16777216):Fn Tryz.prog 53 [.agg (encClient c),.lit (.int .i64 now)] (encTold (tolds now 3 c)):=by
  generalize hR:tolds now 3 c=R
  obtain ⟨C,L⟩:=R
  unfold encTold
  dsimp only
  refine fn_of_run (by kernel_rfl) Tryz.func53 rfl (by kernel_rfl) ?_
  (repeat' first|(refine go_ ?_;((repeat' first|exact True.intro|refine Two.mk ?_ ?_);all_goals intros))|fail "")
  refine r_for (fun x:Nat×DClient×List (List UInt8)=>⟨[(1,.lit (.int .i64 now)),(2,.ptr 0 0 0 0),(4,.ptr 1 0 0 0),(5,.lit (.slice none 0 0)),(12,.lit (.int .i64 x.1)),(6,.own 2)],[(0,some (.box 53 (encClient x.2.1))),(1,some (.box 53 [.lit (.int .i64 0),.lit (.int .i64 0),.lit (.int .u64 0),.lit (.slice none 0 0),.lit (.int .i64 0),.lit (.int .u64 0),.lit (.bool false),.lit (.int .i64 0),.lit (.slice none 0 0),.lit (.int .i64 0),.lit (.slice none 0 0),.lit (.slice none 0 0),.lit (.int .i64 0),.lit (.int .i64 0),.lit (.int .i64 0),.lit (.int .i64 0),.lit (.int .i64 0),.lit (.int .i64 0),.lit (.int .i64 0),.lit (.int .i64 0),.lit (.int .i64 0),.lit (.int .i64 0),.lit (.int .i64 0),.lit (.slice none 0 0),.lit (.bool false),.lit (.slice none 0 0),.lit (.int .i64 0),.lit (.int .i64 0),.lit (.bool false),.lit (.int .i64 0)])),(2,some (.row 29 1 (x.2.2.map encBs)))],3,Tryz.f53.ntmps⟩)
    (fun x=>x.1≤3∧CI B x.2.1 ∧ ∃ Lr,tolds now (3 - x.1) x.2.1=(C,Lr)∧L=x.2.2++Lr∧x.2.2.length≤x.1) (fun x=>3 - x.1) (0,c,[]) ⟨by omega,hc,L,hR,rfl,by simp⟩ ((less_own (n:=2) (t:=6) 29 1 rfl rfl rfl).trans (by (exact lessA_))) ?_
  clear hc hR c
  rintro ⟨k,c,out⟩ ⟨hk,hc,Lr,hT,hL,hol⟩
  dsimp only at *
  have hu:=hc.wf hB
  have h1:=connFlush_fn c.Conn now (HI_wf hc.j hc.l hB)
  have h2:=gWay_fn c.Key true
  have hto:=hc.o
  have htop:I64 c.Conn.Space.Top:=hc.j.sp.2.2.2.1
  have hF:=fun he=>flR_I (now:=now) hc.j hc.l hB he
  have h4:=clFresh_fn c (W.wf_leClient c hu)
  by_cases hk3:k<3
  · obtain ⟨m,hm⟩:∃ m,3 - k=m+1:=⟨3 - k - 1,by omega⟩
    have hm2:3 - (k+1)=m:=by omega
    rw [hm,tolds_s] at hT
    unfold tlP at hT
    have hcn:=fun he:(flR c.Conn now).2.2.2=0=>hc.cn (hF he).j (hF he).l
    generalize flR c.Conn now=R at *
    obtain ⟨n1,num,fs,fe⟩:=R
    unfold encFl at h1
    dsimp only at *
    by_cases hto0:c.To=0
    · rw [if_neg (fun q=>q.1.1 hto0)] at hT
      obtain ⟨rfl,rfl⟩:=Prod.mk.inj hT
      rw [List.append_nil] at hL
      subst hL
      clear hu hF hc hcn
      (repeat' first|(refine s_call (h1) (h:=?_))|(refine p_call (h1) (h:=?_))|(refine s_call (h4) (h:=?_))|(refine p_call (h4) (h:=?_))|(refine go_ ?_;((repeat' first|exact True.intro|refine Two.mk ?_ ?_);all_goals intros))|fail "")
      all_goals (try dsimp only at *)
      all_goals first
        | (exact endwA_)
        | (exfalso;omega)
        | skip
    · by_cases he:fe=0
      · subst he
        obtain ⟨f1,f2,f3,f4,f5⟩:=hF rfl
        have hcn:=hcn rfl
        dsimp only at f3 f4 f5
        by_cases hfl:fs.length=0
        · rw [if_neg (fun q=>q.1.2.2 hfl)] at hT
          obtain ⟨rfl,rfl⟩:=Prod.mk.inj hT
          rw [List.append_nil] at hL
          subst hL
          clear hu hF hc hcn f1 f2
          (repeat' first|(refine s_call (h1) (h:=?_))|(refine p_call (h1) (h:=?_))|(refine s_call (h4) (h:=?_))|(refine p_call (h4) (h:=?_))|(refine go_ ?_;((repeat' first|exact True.intro|refine Two.mk ?_ ?_);all_goals intros))|fail "")
          all_goals (try dsimp only at *)
          all_goals first
            | (exact endwA_)
            | (exfalso;omega)
            | (exfalso;simp only [List.length_map] at *;omega)
            | skip
        · have h3:=packetS_fn (wayV c.Key true) c.To num c.Conn.Space.Top fs (by unfold I64;omega) f4 (by omega)
          generalize pktR (wayV c.Key true) (shH c.To) num c.Conn.Space.Top fs=P at *
          obtain ⟨pb,pe⟩:=P
          unfold encPk shRaw at h3
          dsimp only at *
          by_cases hpe:pe=0
          · subst hpe
            rw [if_pos ⟨⟨hto0,rfl,hfl⟩,rfl⟩] at hT
            obtain ⟨hT1,hT2⟩:=Prod.mk.inj hT
            clear hT hu hF hc f1 f2
            (repeat' first|(refine s_call (h1) (h:=?_))|(refine p_call (h1) (h:=?_))|(refine s_call (h2) (h:=?_))|(refine p_call (h2) (h:=?_))|(refine s_call (h3) (h:=?_))|(refine p_call (h3) (h:=?_))|(refine s_app (r:=(out++[pb]).map encBs) ?_ ?_ ?_ ?_ (h:=?_);(exact Z65_);(exact Z42_);(exact Z10_);(exact Z21_))|(refine s_app0R (r:=(out++[pb]).map encBs) ?_ ?_ ?_ ?_ (h:=?_);(exact Z65_);(exact Z42_);(exact Z10_);(exact Z21_))|(refine p_app (r:=(out++[pb]).map encBs) ?_ ?_ ?_ ?_ (h:=?_);(exact Z65_);(exact Z42_);(exact Z10_);(exact Z21_))|(refine go_ ?_;((repeat' first|exact True.intro|refine Two.mk ?_ ?_);all_goals intros))|fail "")
            all_goals (try dsimp only at *)
            all_goals first
              | (refine ⟨(k+1,clCn c n1,out++[pb]),?_,?_,?_⟩;rotate_left 2;(exact lessA_);(exact Z66_);(exact Z17_))
              | (exfalso;omega)
              | (exfalso;simp only [List.length_map] at *;omega)
              | skip
          · rw [if_neg (fun q=>hpe q.2)] at hT
            obtain ⟨rfl,rfl⟩:=Prod.mk.inj hT
            rw [List.append_nil] at hL
            subst hL
            clear hu hF hc hcn f1 f2
            (repeat' first|(refine s_call (h1) (h:=?_))|(refine p_call (h1) (h:=?_))|(refine s_call (h2) (h:=?_))|(refine p_call (h2) (h:=?_))|(refine s_call (h3) (h:=?_))|(refine p_call (h3) (h:=?_))|(refine s_call (h4) (h:=?_))|(refine p_call (h4) (h:=?_))|(refine go_ ?_;((repeat' first|exact True.intro|refine Two.mk ?_ ?_);all_goals intros))|fail "")
            all_goals (try dsimp only at *)
            all_goals first
              | (exact endwA_)
              | (exfalso;omega)
              | (exfalso;simp only [List.length_map] at *;omega)
              | skip
      · rw [if_neg (fun q=>he q.1.2.1)] at hT
        obtain ⟨rfl,rfl⟩:=Prod.mk.inj hT
        rw [List.append_nil] at hL
        subst hL
        clear hu hF hc hcn
        (repeat' first|(refine s_call (h1) (h:=?_))|(refine p_call (h1) (h:=?_))|(refine s_call (h4) (h:=?_))|(refine p_call (h4) (h:=?_))|(refine go_ ?_;((repeat' first|exact True.intro|refine Two.mk ?_ ?_);all_goals intros))|fail "")
        all_goals (try dsimp only at *)
        all_goals first
          | (exact endwA_)
          | (exfalso;omega)
          | skip
  · have hk0:3 - k=0:=by omega
    rw [hk0] at hT
    unfold tolds at hT
    obtain ⟨rfl,rfl⟩:=Prod.mk.inj hT
    rw [List.append_nil] at hL
    subst hL
    clear hu hF hc h1 h2
    (repeat' first|(refine s_call (h4) (h:=?_))|(refine p_call (h4) (h:=?_))|(refine go_ ?_;((repeat' first|exact True.intro|refine Two.mk ?_ ?_);all_goals intros))|fail "")
    all_goals (try dsimp only at *)
    all_goals first
      | (exact endwA_)
      | (exfalso;omega)
      | skip
set_option maxHeartbeats 8000000 in
theorem clTold_fn {B:Nat} (c:DClient) (now:Int) (hc:CI B c) (hB:B≤16777216):Fn Tryz.prog 57 [.agg (encClient c),.lit (.int .i64 now)] (encTold (tolds now 3 c)):=by
  generalize hR:tolds now 3 c=R
  obtain ⟨C,L⟩:=R
  unfold encTold
  dsimp only
  refine fn_of_run (by kernel_rfl) Tryz.func57 rfl (by kernel_rfl) ?_
  (repeat' first|(refine go_ ?_;((repeat' first|exact True.intro|refine Two.mk ?_ ?_);all_goals intros))|fail "")
  refine r_for (fun x:Nat×DClient×List (List UInt8)=>⟨[(1,.lit (.int .i64 now)),(2,.ptr 0 0 0 0),(4,.ptr 1 0 0 0),(5,.lit (.slice none 0 0)),(7,.lit (.int .i64 x.1)),(6,.own 2)],[(0,some (.box 53 (encClient x.2.1))),(1,some (.box 53 [.lit (.int .i64 0),.lit (.int .i64 0),.lit (.int .u64 0),.lit (.slice none 0 0),.lit (.int .i64 0),.lit (.int .u64 0),.lit (.bool false),.lit (.int .i64 0),.lit (.slice none 0 0),.lit (.int .i64 0),.lit (.slice none 0 0),.lit (.slice none 0 0),.lit (.int .i64 0),.lit (.int .i64 0),.lit (.int .i64 0),.lit (.int .i64 0),.lit (.int .i64 0),.lit (.int .i64 0),.lit (.int .i64 0),.lit (.int .i64 0),.lit (.int .i64 0),.lit (.int .i64 0),.lit (.int .i64 0),.lit (.slice none 0 0),.lit (.bool false),.lit (.slice none 0 0),.lit (.int .i64 0),.lit (.int .i64 0),.lit (.bool false),.lit (.int .i64 0)])),(2,some (.row 29 1 (x.2.2.map encBs)))],3,Tryz.f57.ntmps⟩)
    (fun x=>x.1≤3∧CI B x.2.1 ∧ ∃ Lr,tolds now (3 - x.1) x.2.1=(C,Lr)∧L=x.2.2++Lr∧x.2.2.length≤x.1) (fun x=>3 - x.1) (0,c,[]) ⟨by omega,hc,L,hR,rfl,by simp⟩ ((less_own (n:=2) (t:=6) 29 1 rfl rfl rfl).trans (by (exact lessA_))) ?_
  clear hc hR c
  rintro ⟨k,c,out⟩ ⟨hk,hc,Lr,hT,hL,hol⟩
  dsimp only at *
  have hu:=hc.wf hB
  have h1:=connFlushed_fn c.Conn now (HI_wf hc.j hc.l hB)
  have h2:=wayKey_fn c.Key true
  have hto:=hc.o
  have htop:I64 c.Conn.Space.Top:=hc.j.sp.2.2.2.1
  have hF:=fun he=>flR_I (now:=now) hc.j hc.l hB he
  skip
  by_cases hk3:k<3
  · obtain ⟨m,hm⟩:∃ m,3 - k=m+1:=⟨3 - k - 1,by omega⟩
    have hm2:3 - (k+1)=m:=by omega
    rw [hm,tolds_s] at hT
    unfold tlP at hT
    have hcn:=fun he:(flR c.Conn now).2.2.2=0=>hc.cn (hF he).j (hF he).l
    generalize flR c.Conn now=R at *
    obtain ⟨n1,num,fs,fe⟩:=R
    unfold encFl at h1
    dsimp only at *
    by_cases hto0:c.To=0
    · rw [if_neg (fun q=>q.1.1 hto0)] at hT
      obtain ⟨rfl,rfl⟩:=Prod.mk.inj hT
      rw [List.append_nil] at hL
      subst hL
      clear hu hF hc hcn
      (repeat' first|(refine s_call (h1) (h:=?_))|(refine p_call (h1) (h:=?_))|(refine go_ ?_;((repeat' first|exact True.intro|refine Two.mk ?_ ?_);all_goals intros))|fail "")
      all_goals (try dsimp only at *)
      all_goals first
        | (exact endwA_)
        | (exfalso;omega)
        | skip
    · by_cases he:fe=0
      · subst he
        obtain ⟨f1,f2,f3,f4,f5⟩:=hF rfl
        have hcn:=hcn rfl
        dsimp only at f3 f4 f5
        by_cases hfl:fs.length=0
        · rw [if_neg (fun q=>q.1.2.2 hfl)] at hT
          obtain ⟨rfl,rfl⟩:=Prod.mk.inj hT
          rw [List.append_nil] at hL
          subst hL
          clear hu hF hc hcn f1 f2
          (repeat' first|(refine s_call (h1) (h:=?_))|(refine p_call (h1) (h:=?_))|(refine go_ ?_;((repeat' first|exact True.intro|refine Two.mk ?_ ?_);all_goals intros))|fail "")
          all_goals (try dsimp only at *)
          all_goals first
            | (exact endwA_)
            | (exfalso;omega)
            | (exfalso;simp only [List.length_map] at *;omega)
            | skip
        · have h3:=packetOfS_fn (wayV c.Key true) c.To num c.Conn.Space.Top fs (by unfold I64;omega) f3 htop f4 (by omega)
          generalize pktR (wayV c.Key true) (shH c.To) num c.Conn.Space.Top fs=P at *
          obtain ⟨pb,pe⟩:=P
          unfold encPk shRaw at h3
          dsimp only at *
          by_cases hpe:pe=0
          · subst hpe
            rw [if_pos ⟨⟨hto0,rfl,hfl⟩,rfl⟩] at hT
            obtain ⟨hT1,hT2⟩:=Prod.mk.inj hT
            clear hT hu hF hc f1 f2
            (repeat' first|(refine s_call (h1) (h:=?_))|(refine p_call (h1) (h:=?_))|(refine s_call (h2) (h:=?_))|(refine p_call (h2) (h:=?_))|(refine s_call (h3) (h:=?_))|(refine p_call (h3) (h:=?_))|(refine s_app (r:=(out++[pb]).map encBs) ?_ ?_ ?_ ?_ (h:=?_);(exact Z65_);(exact Z42_);(exact Z10_);(exact Z21_))|(refine s_app0R (r:=(out++[pb]).map encBs) ?_ ?_ ?_ ?_ (h:=?_);(exact Z65_);(exact Z42_);(exact Z10_);(exact Z21_))|(refine p_app (r:=(out++[pb]).map encBs) ?_ ?_ ?_ ?_ (h:=?_);(exact Z65_);(exact Z42_);(exact Z10_);(exact Z21_))|(refine go_ ?_;((repeat' first|exact True.intro|refine Two.mk ?_ ?_);all_goals intros))|fail "")
            all_goals (try dsimp only at *)
            all_goals first
              | (refine ⟨(k+1,clCn c n1,out++[pb]),?_,?_,?_⟩;rotate_left 2;(exact lessA_);(exact Z66_);(exact Z17_))
              | (exfalso;omega)
              | (exfalso;simp only [List.length_map] at *;omega)
              | skip
          · rw [if_neg (fun q=>hpe q.2)] at hT
            obtain ⟨rfl,rfl⟩:=Prod.mk.inj hT
            rw [List.append_nil] at hL
            subst hL
            clear hu hF hc hcn f1 f2
            (repeat' first|(refine s_call (h1) (h:=?_))|(refine p_call (h1) (h:=?_))|(refine s_call (h2) (h:=?_))|(refine p_call (h2) (h:=?_))|(refine s_call (h3) (h:=?_))|(refine p_call (h3) (h:=?_))|(refine go_ ?_;((repeat' first|exact True.intro|refine Two.mk ?_ ?_);all_goals intros))|fail "")
            all_goals (try dsimp only at *)
            all_goals first
              | (exact endwA_)
              | (exfalso;omega)
              | (exfalso;simp only [List.length_map] at *;omega)
              | skip
      · rw [if_neg (fun q=>he q.1.2.1)] at hT
        obtain ⟨rfl,rfl⟩:=Prod.mk.inj hT
        rw [List.append_nil] at hL
        subst hL
        clear hu hF hc hcn
        (repeat' first|(refine s_call (h1) (h:=?_))|(refine p_call (h1) (h:=?_))|(refine go_ ?_;((repeat' first|exact True.intro|refine Two.mk ?_ ?_);all_goals intros))|fail "")
        all_goals (try dsimp only at *)
        all_goals first
          | (exact endwA_)
          | (exfalso;omega)
          | skip
  · have hk0:3 - k=0:=by omega
    rw [hk0] at hT
    unfold tolds at hT
    obtain ⟨rfl,rfl⟩:=Prod.mk.inj hT
    rw [List.append_nil] at hL
    subst hL
    clear hu hF hc h1 h2
    (repeat' first|(refine go_ ?_;((repeat' first|exact True.intro|refine Two.mk ?_ ?_);all_goals intros))|fail "")
    all_goals (try dsimp only at *)
    all_goals first
      | (exact endwA_)
      | (exfalso;omega)
      | skip
end Go.Proofs.YtendheafcbickaaGreat
