
import Derived.Test.YtendheafcbickaaGreatHZip
import Derived.Test.YtendheafcbickaaGreatHGo
import Derived.Test.YtendheafcbickaaGreatHGtE
set_option linter.unusedVariables false
set_option linter.unusedSimpArgs false
set_option linter.unusedVariables false
namespace Go.Proofs.YtendheafcbickaaGreat
set_option maxRecDepth 100000
attribute [local irreducible] Run RunL QStep GStep Fn Less PL FnM
theorem ntAll_c (now:Int) (n:DNote) (r:List DNote) (g:DGate) (o:List DMail) (l:List DNote):ntAll now (n :: r) g o l=ntAll now r (ntTell now 3 n g o).2.1 (ntTell now 3 n g o).2.2 (if (ntTell now 3 n g o).1.Conn.Closed=true then l else l++[(ntTell now 3 n g o).1]):=rfl
set_option maxHeartbeats 16000000 in
theorem deskFlush_fnm {B:Nat} (g:DGate) (nts:List DNote) (out:List DMail) (hB:B≤16777216) (hg:GJ g) (hn:∀ y ∈ nts,NI B y) (hN:g.Notes=nts) (hl:nts.length≤1000) (ho:out.length≤1000) (G:DGate) (O:List DMail) (L:List DNote) (hR:ntAll g.Now nts g out []=(G,O,L)) :
    FnM Tryz.prog 40 [.ptr 0 0 0 0] [(0,some (.box 86 (deskC g (.ro (nts.map encNote)) (.own 1)))),(1,some (.row 99 2 (out.map encMail)))] 2 (.tup []) [(0,some (.box 86 (deskC G (.own 2) (.own 3)))),(2,some (.row 90 29 (L.map encNote))),(3,some (.row 99 2 (O.map encMail)))] 4:=by
  obtain ⟨now,hnow⟩:∃ now,g.Now=now:=⟨_,rfl⟩
  rw [hnow] at hR
  unfold deskC
  refine fnm_of_run (by kernel_rfl) Tryz.func40 rfl (by kernel_rfl) (by rfl) ?_
  refine r_less (mv_ 1 (st':=⟨[(0,.ptr 0 0 0 0)],[(0,some (.box 86 [.lit (.int .u64 g.Secret),.lit (.int .i64 g.Now),.lit (.int .i64 g.Next),.ro (nts.map encNote),.lit (.bool g.Tally0.Known),.lit (.int .i64 g.Tally0.Got),.lit (.int .i64 g.Tally0.Sent),.lit (.bool g.Tally1.Known),.lit (.int .i64 g.Tally1.Got),.lit (.int .i64 g.Tally1.Sent),.lit (.bool g.Tally2.Known),.lit (.int .i64 g.Tally2.Got),.lit (.int .i64 g.Tally2.Sent),.lit (.bool g.Tally3.Known),.lit (.int .i64 g.Tally3.Got),.lit (.int .i64 g.Tally3.Sent),.lit (.bool g.Retry),.lit (.int .i64 g.Shed),.own 2])),(2,some (.row 99 2 (out.map encMail)))],3,Tryz.f40.ntmps⟩)) ?_
  (repeat' first|(refine go_ ?_;((repeat' first|exact True.intro|refine Two.mk ?_ ?_);all_goals intros))|fail "")
  refine r_for (fun x:Nat×DGate×List DMail×List DNote=>⟨[(0,.ptr 0 0 0 0),(14,.ro (nts.map encNote)),(15,.lit (.int .i64 nts.length)),(16,.lit (.int .i64 x.1)),(2,.own 3)],[(0,some (.box 86 [.lit (.int .u64 x.2.1.Secret),.lit (.int .i64 x.2.1.Now),.lit (.int .i64 x.2.1.Next),.ro (nts.map encNote),.lit (.bool x.2.1.Tally0.Known),.lit (.int .i64 x.2.1.Tally0.Got),.lit (.int .i64 x.2.1.Tally0.Sent),.lit (.bool x.2.1.Tally1.Known),.lit (.int .i64 x.2.1.Tally1.Got),.lit (.int .i64 x.2.1.Tally1.Sent),.lit (.bool x.2.1.Tally2.Known),.lit (.int .i64 x.2.1.Tally2.Got),.lit (.int .i64 x.2.1.Tally2.Sent),.lit (.bool x.2.1.Tally3.Known),.lit (.int .i64 x.2.1.Tally3.Got),.lit (.int .i64 x.2.1.Tally3.Sent),.lit (.bool x.2.1.Retry),.lit (.int .i64 x.2.1.Shed),.own 2])),(2,some (.row 99 2 (x.2.2.1.map encMail))),(3,some (.row 90 29 (x.2.2.2.map encNote)))],4,Tryz.f40.ntmps⟩)
    (fun x=>x.1≤nts.length∧GJ x.2.1∧x.2.1.Notes=nts∧x.2.1.Now=now∧x.2.2.1.length≤1000+3 * x.1∧x.2.2.2.length≤x.1∧ntAll now (nts.drop x.1) x.2.1 x.2.2.1 x.2.2.2=(G,O,L)) (fun x=>nts.length - x.1) (0,g,out,[]) ⟨Nat.zero_le _,hg,hN,hnow,by omega,by simp,hR⟩ ((less_own (n:=3) (t:=2) 90 29 rfl rfl rfl).trans (by (exact lessA_))) ?_
  clear hg hR hnow ho hN g out
  rintro ⟨k,g,out,left⟩ ⟨hk,hg,hN,hnow,hol,hll,hT⟩
  dsimp only at *
  by_cases hkn:k<nts.length
  · have hc:=hn _ (getD_mem hkn)
    rw [drop_cons hkn,ntAll_c] at hT
    generalize hA:ntTell now 3 (nts.getD k default) g out=A at hT
    obtain ⟨n1,g1,o1⟩:=A
    dsimp only at hT
    have hI:=ntTell_I (now:=now) hB 3 (o:=out) hc hg
    rw [hA] at hI
    dsimp only at hI
    (repeat' first|(refine goU_ 4 ?_;((repeat' first|exact True.intro|refine Two.mk ?_ ?_);all_goals intros))|fail "")
    all_goals try (exfalso;omega)
    refine r_cut (fun x:DNote×DGate×List DMail=>⟨[(0,.ptr 0 0 0 0),(14,.ro (nts.map encNote)),(15,.lit (.int .i64 nts.length)),(16,.lit (.int .i64 k)),(2,.own 3),(4,.ptr 4 0 0 0)],[(0,some (.box 86 [.lit (.int .u64 x.2.1.Secret),.lit (.int .i64 x.2.1.Now),.lit (.int .i64 x.2.1.Next),.ro (nts.map encNote),.lit (.bool x.2.1.Tally0.Known),.lit (.int .i64 x.2.1.Tally0.Got),.lit (.int .i64 x.2.1.Tally0.Sent),.lit (.bool x.2.1.Tally1.Known),.lit (.int .i64 x.2.1.Tally1.Got),.lit (.int .i64 x.2.1.Tally1.Sent),.lit (.bool x.2.1.Tally2.Known),.lit (.int .i64 x.2.1.Tally2.Got),.lit (.int .i64 x.2.1.Tally2.Sent),.lit (.bool x.2.1.Tally3.Known),.lit (.int .i64 x.2.1.Tally3.Got),.lit (.int .i64 x.2.1.Tally3.Sent),.lit (.bool x.2.1.Retry),.lit (.int .i64 x.2.1.Shed),.own 2])),(2,some (.row 99 2 (x.2.2.map encMail))),(3,some (.row 90 29 (left.map encNote))),(4,some (.box 90 (encNote x.1)))],5,Tryz.f40.ntmps⟩) (fun x=>x=(n1,g1,o1)) ?_ ?_
    · (repeat' first|(refine go_ ?_;((repeat' first|exact True.intro|refine Two.mk ?_ ?_);all_goals intros))|fail "")
      all_goals try (exfalso;omega)
      refine r_for (fun x:Nat×DNote×DGate×List DMail=>⟨[(0,.ptr 0 0 0 0),(14,.ro (nts.map encNote)),(15,.lit (.int .i64 nts.length)),(16,.lit (.int .i64 k)),(2,.own 3),(4,.ptr 4 0 0 0),(20,.lit (.int .i64 x.1))],[(0,some (.box 86 [.lit (.int .u64 x.2.2.1.Secret),.lit (.int .i64 x.2.2.1.Now),.lit (.int .i64 x.2.2.1.Next),.ro (nts.map encNote),.lit (.bool x.2.2.1.Tally0.Known),.lit (.int .i64 x.2.2.1.Tally0.Got),.lit (.int .i64 x.2.2.1.Tally0.Sent),.lit (.bool x.2.2.1.Tally1.Known),.lit (.int .i64 x.2.2.1.Tally1.Got),.lit (.int .i64 x.2.2.1.Tally1.Sent),.lit (.bool x.2.2.1.Tally2.Known),.lit (.int .i64 x.2.2.1.Tally2.Got),.lit (.int .i64 x.2.2.1.Tally2.Sent),.lit (.bool x.2.2.1.Tally3.Known),.lit (.int .i64 x.2.2.1.Tally3.Got),.lit (.int .i64 x.2.2.1.Tally3.Sent),.lit (.bool x.2.2.1.Retry),.lit (.int .i64 x.2.2.1.Shed),.own 2])),(2,some (.row 99 2 (x.2.2.2.map encMail))),(3,some (.row 90 29 (left.map encNote))),(4,some (.box 90 (encNote x.2.1)))],5,Tryz.f40.ntmps⟩)
        (fun x=>x.1≤3∧NI B x.2.1∧GJ x.2.2.1∧x.2.2.1.Notes=nts∧x.2.2.1.Now=now∧x.2.2.2.length≤out.length+x.1∧ntTell now (3 - x.1) x.2.1 x.2.2.1 x.2.2.2=(n1,g1,o1)) (fun x=>3 - x.1) (0,nts.getD k default,g,out) ⟨by omega,hc,hg,hN,hnow,by dsimp only;omega,hA⟩ (by (exact lessA_)) ?_
      clear hA hI hT hc hg hN hnow hn
      rintro ⟨j,n,g,o⟩ ⟨hj,hc,hg,hN,hnow,hol2,hA⟩
      dsimp only at *
      obtain ⟨nid,nfrom,npeer,nkey,nready,nconn⟩:=n
      have h1:=connFlush_fn nconn now (HI_wf hc.j hc.l hB)
      have h2:=gWay_fn nkey false
      have hfr:=hc.f
      have htop:I64 nconn.Space.Top:=hc.j.sp.2.2.2.1
      have hF:=fun he=>flR_I (c:=nconn) (now:=now) hc.j hc.l hB he
      by_cases hj3:j<3
      · obtain ⟨m,hm⟩:∃ m,3 - j=m+1:=⟨3 - j - 1,by omega⟩
        have hm2:3 - (j+1)=m:=by omega
        rw [hm,ntTell_s] at hA
        unfold ntPk at hA
        dsimp only at *
        have hcn:=fun he:(flR nconn now).2.2.2=0=>hc.cn (hF he).j (hF he).l
        unfold ntCn at hcn hA
        dsimp only at hcn hA hfr
        generalize flR nconn now=R at *
        obtain ⟨c1,num,fs,fe⟩:=R
        unfold encFl at h1
        dsimp only at *
        rw [← hnow] at h1
        by_cases he:fe=0
        · subst he
          obtain ⟨f1,f2,f3,f4,f5⟩:=hF rfl
          have hcn:=hcn rfl
          dsimp only at f3 f4 f5
          by_cases hfl:fs.length=0
          · rw [if_neg (fun q=>q.1.2.1 hfl)] at hA
            cases nready
            all_goals
              cases hA
              clear hF hc hcn f1 f2 hg
              (repeat' first|(refine s_call (h1) (h:=?_))|(refine p_call (h1) (h:=?_))|(refine go_ ?_;((repeat' first|exact True.intro|refine Two.mk ?_ ?_);all_goals intros))|fail "")
              all_goals (try dsimp only at *)
              all_goals first
                | (refine ⟨(DNote.mk nid nfrom npeer nkey false nconn,g,o),?_,?_⟩;rotate_left 1;(exact lessA_);(focus (rfl)))
                | (refine ⟨(DNote.mk nid nfrom npeer nkey true nconn,g,o),?_,?_⟩;rotate_left 1;(exact lessA_);(focus (rfl)))
                | (refine ⟨(DNote.mk nid nfrom npeer nkey false nconn,g1,o1),?_,?_⟩;rotate_left 1;(exact lessA_);(focus (rfl)))
                | (refine ⟨(DNote.mk nid nfrom npeer nkey true nconn,g1,o1),?_,?_⟩;rotate_left 1;(exact lessA_);(focus (rfl)))
                | (exfalso;omega)
                | (exfalso;simp only [List.length_map] at *;omega)
                | skip
          · cases nready
            · rw [if_neg (fun q=>Bool.false_ne_true q.1.2.2)] at hA
              cases hA
              clear hF hc hcn f1 f2 hg
              (repeat' first|(refine s_call (h1) (h:=?_))|(refine p_call (h1) (h:=?_))|(refine go_ ?_;((repeat' first|exact True.intro|refine Two.mk ?_ ?_);all_goals intros))|fail "")
              all_goals (try dsimp only at *)
              all_goals first
                | (refine ⟨(DNote.mk nid nfrom npeer nkey false nconn,g,o),?_,?_⟩;rotate_left 1;(exact lessA_);(focus (rfl)))
                | (refine ⟨(DNote.mk nid nfrom npeer nkey true nconn,g,o),?_,?_⟩;rotate_left 1;(exact lessA_);(focus (rfl)))
                | (refine ⟨(DNote.mk nid nfrom npeer nkey false nconn,g1,o1),?_,?_⟩;rotate_left 1;(exact lessA_);(focus (rfl)))
                | (refine ⟨(DNote.mk nid nfrom npeer nkey true nconn,g1,o1),?_,?_⟩;rotate_left 1;(exact lessA_);(focus (rfl)))
                | (exfalso;omega)
                | (exfalso;simp only [List.length_map] at *;omega)
                | skip
            · have h3:=packetS_fn (wayV nkey false) nfrom num nconn.Space.Top fs (by unfold I64;omega) f4 (by omega)
              have hpl:=pktR_len (wayV nkey false) (shH nfrom) num nconn.Space.Top fs
              generalize pktR (wayV nkey false) (shH nfrom) num nconn.Space.Top fs=P at *
              obtain ⟨pb,pe⟩:=P
              unfold encPk shRaw at h3
              dsimp only at *
              by_cases hpe:pe=0
              · subst hpe
                generalize hS:sendR g npeer pb=S at *
                obtain ⟨G2,ok⟩:=S
                have hsd:=deskSend_fnm g o npeer pb (nts.map encNote) hg hc.p (by omega) (by omega) ok G2 hS
                have hsI:=sendR_I (p:=npeer) (b:=pb) hg
                rw [hS] at hsI
                unfold deskC at hsd
                dsimp only at *
                cases ok
                · rw [if_neg (fun q=>Bool.false_ne_true q.2.2)] at hA
                  have hGg:G2=g:=by
                    unfold sendR at hS
                    split at hS
                    · cases hS
                    · cases hS;rfl
                  subst hGg
                  cases hA
                  rw [if_neg Bool.false_ne_true] at hsd
                  clear hF hc hcn f1 f2 hg hsI
                  (repeat' first|(refine s_call (h1) (h:=?_))|(refine p_call (h1) (h:=?_))|(refine s_call (h2) (h:=?_))|(refine p_call (h2) (h:=?_))|(refine s_call (h3) (h:=?_))|(refine p_call (h3) (h:=?_))|(refine s_callM [0,2] (hsd) (h:=?_))|(refine p_callM [0,2] (hsd) (h:=?_))|(refine go_ ?_;((repeat' first|exact True.intro|refine Two.mk ?_ ?_);all_goals intros))|fail "")
                  all_goals (try dsimp only at *)
                  all_goals first
                    | (refine ⟨(DNote.mk nid nfrom npeer nkey true nconn,G2,o),?_,?_⟩;rotate_left 1;(exact lessA_);(focus (rfl)))
                    | (refine ⟨(DNote.mk nid nfrom npeer nkey true nconn,G2,o1),?_,?_⟩;rotate_left 1;(exact lessA_);(focus (rfl)))
                    | (refine ⟨(DNote.mk nid nfrom npeer nkey true nconn,g1,o1),?_,?_⟩;rotate_left 1;(exact lessA_);(focus (rfl)))
                    | (refine ⟨(DNote.mk nid nfrom npeer nkey true nconn,g,o),?_,?_⟩;rotate_left 1;(exact lessA_);(focus (rfl)))
                    | (exfalso;omega)
                    | (exfalso;simp only [List.length_map] at *;omega)
                    | skip
                · rw [if_pos ⟨⟨rfl,hfl,rfl⟩,rfl,rfl⟩] at hA
                  rw [if_pos rfl] at hsd
                  obtain ⟨s1,s2,s3⟩:=hsI
                  clear hF hc f1 f2 hg
                  (repeat' first|(refine s_call (h1) (h:=?_))|(refine p_call (h1) (h:=?_))|(refine s_call (h2) (h:=?_))|(refine p_call (h2) (h:=?_))|(refine s_call (h3) (h:=?_))|(refine p_call (h3) (h:=?_))|(refine s_callM [0,2] (hsd) (h:=?_))|(refine p_callM [0,2] (hsd) (h:=?_))|(refine go_ ?_;((repeat' first|exact True.intro|refine Two.mk ?_ ?_);all_goals intros))|fail "")
                  all_goals (try dsimp only at *)
                  all_goals first
                    | (refine ⟨(j+1,⟨nid,nfrom,npeer,nkey,true,c1⟩,G2,o++[⟨npeer,pb⟩]),?_,?_,?_⟩;rotate_left 2;(exact lessA_);(exact Z66_);(exact Z3_))
                    | (exfalso;omega)
                    | (exfalso;simp only [List.length_map] at *;omega)
                    | skip
              · rw [if_neg (fun q=>hpe q.2.1)] at hA
                cases hA
                clear hF hc hcn f1 f2 hg
                (repeat' first|(refine s_call (h1) (h:=?_))|(refine p_call (h1) (h:=?_))|(refine s_call (h2) (h:=?_))|(refine p_call (h2) (h:=?_))|(refine s_call (h3) (h:=?_))|(refine p_call (h3) (h:=?_))|(refine go_ ?_;((repeat' first|exact True.intro|refine Two.mk ?_ ?_);all_goals intros))|fail "")
                all_goals (try dsimp only at *)
                all_goals first
                  | (refine ⟨(DNote.mk nid nfrom npeer nkey false nconn,g,o),?_,?_⟩;rotate_left 1;(exact lessA_);(focus (rfl)))
                  | (refine ⟨(DNote.mk nid nfrom npeer nkey true nconn,g,o),?_,?_⟩;rotate_left 1;(exact lessA_);(focus (rfl)))
                  | (refine ⟨(DNote.mk nid nfrom npeer nkey false nconn,g1,o1),?_,?_⟩;rotate_left 1;(exact lessA_);(focus (rfl)))
                  | (refine ⟨(DNote.mk nid nfrom npeer nkey true nconn,g1,o1),?_,?_⟩;rotate_left 1;(exact lessA_);(focus (rfl)))
                  | (exfalso;omega)
                  | (exfalso;simp only [List.length_map] at *;omega)
                  | skip
        · rw [if_neg (fun q=>he q.1.1)] at hA
          cases nready
          all_goals
            cases hA
            clear hF hc hcn hg
            (repeat' first|(refine s_call (h1) (h:=?_))|(refine p_call (h1) (h:=?_))|(refine go_ ?_;((repeat' first|exact True.intro|refine Two.mk ?_ ?_);all_goals intros))|fail "")
            all_goals (try dsimp only at *)
            all_goals first
              | (refine ⟨(DNote.mk nid nfrom npeer nkey false nconn,g,o),?_,?_⟩;rotate_left 1;(exact lessA_);(focus (rfl)))
              | (refine ⟨(DNote.mk nid nfrom npeer nkey true nconn,g,o),?_,?_⟩;rotate_left 1;(exact lessA_);(focus (rfl)))
              | (refine ⟨(DNote.mk nid nfrom npeer nkey false nconn,g1,o1),?_,?_⟩;rotate_left 1;(exact lessA_);(focus (rfl)))
              | (refine ⟨(DNote.mk nid nfrom npeer nkey true nconn,g1,o1),?_,?_⟩;rotate_left 1;(exact lessA_);(focus (rfl)))
              | (exfalso;omega)
              | (exfalso;simp only [List.length_map] at *;omega)
              | skip
      · have hj0:3 - j=0:=by omega
        rw [hj0] at hA
        unfold ntTell at hA
        cases nready
        all_goals
          cases hA
          clear hF hc hg h1 h2
          (repeat' first|(refine go_ ?_;((repeat' first|exact True.intro|refine Two.mk ?_ ?_);all_goals intros))|fail "")
          all_goals (try dsimp only at *)
          all_goals first
            | (refine ⟨(DNote.mk nid nfrom npeer nkey false nconn,g,o),?_,?_⟩;rotate_left 1;(exact lessA_);(focus (rfl)))
            | (refine ⟨(DNote.mk nid nfrom npeer nkey true nconn,g,o),?_,?_⟩;rotate_left 1;(exact lessA_);(focus (rfl)))
            | (refine ⟨(DNote.mk nid nfrom npeer nkey false nconn,g1,o1),?_,?_⟩;rotate_left 1;(exact lessA_);(focus (rfl)))
            | (refine ⟨(DNote.mk nid nfrom npeer nkey true nconn,g1,o1),?_,?_⟩;rotate_left 1;(exact lessA_);(focus (rfl)))
            | (exfalso;omega)
            | (exfalso;simp only [List.length_map] at *;omega)
            | skip
    rintro _ rfl
    dsimp only
    obtain ⟨a1,a2,a3,a4,a5,a6⟩:=hI
    clear hA
    obtain ⟨nid,nfrom,npeer,nkey,nready,nconn⟩:=n1
    obtain ⟨b0,space,pace,flow,credit,ids,grant,opened,lanes,b1,queue,last,resets,b2,code⟩:=nconn
    dsimp only at *
    cases b2
    · rw [if_neg Bool.false_ne_true] at hT
      clear a1
      (repeat' first|(refine s_app (r:=(left++[DNote.mk nid nfrom npeer nkey nready (DConn.mk b0 space pace flow credit ids grant opened lanes b1 queue last resets false code)]).map encNote) ?_ ?_ ?_ ?_ (h:=?_);(exact Z65_);(exact Z47_);(exact Z12_);(exact Z22_))|(refine s_app0R (r:=(left++[DNote.mk nid nfrom npeer nkey nready (DConn.mk b0 space pace flow credit ids grant opened lanes b1 queue last resets false code)]).map encNote) ?_ ?_ ?_ ?_ (h:=?_);(exact Z65_);(exact Z47_);(exact Z12_);(exact Z22_))|(refine p_app (r:=(left++[DNote.mk nid nfrom npeer nkey nready (DConn.mk b0 space pace flow credit ids grant opened lanes b1 queue last resets false code)]).map encNote) ?_ ?_ ?_ ?_ (h:=?_);(exact Z65_);(exact Z47_);(exact Z12_);(exact Z22_))|(refine go_ ?_;((repeat' first|exact True.intro|refine Two.mk ?_ ?_);all_goals intros))|fail "")
      all_goals (try dsimp only at *)
      all_goals first
        | (refine ⟨(k+1,g1,o1,left++[⟨nid,nfrom,npeer,nkey,nready,⟨b0,space,pace,flow,credit,ids,grant,opened,lanes,b1,queue,last,resets,false,code⟩⟩]),?_,?_,?_⟩;rotate_left 2;(exact lessA_);(exact Z66_);(exact Z7_))
        | (exfalso;omega)
        | skip
    · rw [if_pos rfl] at hT
      clear a1
      (repeat' first|(refine go_ ?_;((repeat' first|exact True.intro|refine Two.mk ?_ ?_);all_goals intros))|fail "")
      all_goals (try dsimp only at *)
      all_goals first
        | (refine ⟨(k+1,g1,o1,left),?_,?_,?_⟩;rotate_left 2;(exact lessA_);(exact Z66_);(exact Z18_))
        | (exfalso;omega)
        | skip
  · have hkl:k=nts.length:=by omega
    subst hkl
    rw [List.drop_length] at hT
    unfold ntAll at hT
    cases hT
    clear hn
    (repeat' first|(refine go_ ?_;((repeat' first|exact True.intro|refine Two.mk ?_ ?_);all_goals intros))|fail "")
    all_goals first
      | (exact endmA_)
      | (exfalso;omega)
      | skip
set_option maxHeartbeats 16000000 in
theorem flushed_fn {B:Nat} (g:DGate) (nts:List DNote) (out:List DMail) (hB:B≤16777216) (hg:GJ g) (hn:∀ y ∈ nts,NI B y) (hN:g.Notes=nts) (hl:nts.length≤1000) (ho:out.length≤1000) (G:DGate) (O:List DMail) (L:List DNote) (hR:ntAll g.Now nts g out []=(G,O,L)) :
    Fn Tryz.prog 45 [.agg (encGate g),.ro (out.map encMail)] (.tup [.agg (encGate (gtNts G L)),.ro (O.map encMail)]):=by
  obtain ⟨now,hnow⟩:∃ now,g.Now=now:=⟨_,rfl⟩
  rw [hnow] at hR
  refine fn_of_run (by kernel_rfl) Tryz.func45 rfl (by kernel_rfl) ?_
  generalize hZ:encGate (gtNts G L)=Z
  unfold encGate gtNts at hZ
  dsimp only at hZ
  subst hZ
  generalize hZ:encGate g=Z
  unfold encGate at hZ
  rw [hN] at hZ
  subst hZ
  (repeat' first|(refine go_ ?_;((repeat' first|exact True.intro|refine Two.mk ?_ ?_);all_goals intros))|fail "")
  refine r_for (fun x:Nat×DGate×List DMail×List DNote=>⟨[(2,.ptr 0 0 0 0),(4,.ptr 1 0 0 0),(5,.lit (.slice none 0 0)),(19,.ro (nts.map encNote)),(20,.lit (.int .i64 nts.length)),(21,.lit (.int .i64 x.1)),(6,.own 2),(1,.ro (x.2.2.1.map encMail))],[(0,some (.box 28 [.lit (.int .u64 x.2.1.Secret),.lit (.int .i64 x.2.1.Now),.lit (.int .i64 x.2.1.Next),.ro (nts.map encNote),.lit (.bool x.2.1.Tally0.Known),.lit (.int .i64 x.2.1.Tally0.Got),.lit (.int .i64 x.2.1.Tally0.Sent),.lit (.bool x.2.1.Tally1.Known),.lit (.int .i64 x.2.1.Tally1.Got),.lit (.int .i64 x.2.1.Tally1.Sent),.lit (.bool x.2.1.Tally2.Known),.lit (.int .i64 x.2.1.Tally2.Got),.lit (.int .i64 x.2.1.Tally2.Sent),.lit (.bool x.2.1.Tally3.Known),.lit (.int .i64 x.2.1.Tally3.Got),.lit (.int .i64 x.2.1.Tally3.Sent),.lit (.bool x.2.1.Retry),.lit (.int .i64 x.2.1.Shed)])),(1,some (.box 28 [.lit (.int .u64 0),.lit (.int .i64 0),.lit (.int .i64 0),.lit (.slice none 0 0),.lit (.bool false),.lit (.int .i64 0),.lit (.int .i64 0),.lit (.bool false),.lit (.int .i64 0),.lit (.int .i64 0),.lit (.bool false),.lit (.int .i64 0),.lit (.int .i64 0),.lit (.bool false),.lit (.int .i64 0),.lit (.int .i64 0),.lit (.bool false),.lit (.int .i64 0)])),(2,some (.row 90 29 (x.2.2.2.map encNote)))],3,Tryz.f45.ntmps⟩)
    (fun x=>x.1≤nts.length∧GJ x.2.1∧x.2.1.Notes=nts∧x.2.1.Now=now∧x.2.2.1.length≤1000+3 * x.1∧x.2.2.2.length≤x.1∧ntAll now (nts.drop x.1) x.2.1 x.2.2.1 x.2.2.2=(G,O,L)) (fun x=>nts.length - x.1) (0,g,out,[]) ⟨Nat.zero_le _,hg,hN,hnow,by omega,by simp,hR⟩ ((less_own (n:=2) (t:=6) 90 29 rfl rfl rfl).trans (by (exact lessA_))) ?_
  clear hg hR hnow ho hN g out
  rintro ⟨k,g,out,left⟩ ⟨hk,hg,hN,hnow,hol,hll,hT⟩
  dsimp only at *
  by_cases hkn:k<nts.length
  · have hc:=hn _ (getD_mem hkn)
    rw [drop_cons hkn,ntAll_c] at hT
    generalize hA:ntTell now 3 (nts.getD k default) g out=A at hT
    obtain ⟨n1,g1,o1⟩:=A
    dsimp only at hT
    have hI:=ntTell_I (now:=now) hB 3 (o:=out) hc hg
    rw [hA] at hI
    dsimp only at hI
    (repeat' first|(refine goU_ 5 ?_;((repeat' first|exact True.intro|refine Two.mk ?_ ?_);all_goals intros))|fail "")
    all_goals try (exfalso;omega)
    refine r_cut (fun x:DNote×DGate×List DMail=>⟨[(2,.ptr 0 0 0 0),(4,.ptr 1 0 0 0),(5,.lit (.slice none 0 0)),(19,.ro (nts.map encNote)),(20,.lit (.int .i64 nts.length)),(21,.lit (.int .i64 k)),(6,.own 2),(1,.ro (x.2.2.map encMail)),(8,.ptr 3 0 0 0)],[(0,some (.box 28 [.lit (.int .u64 x.2.1.Secret),.lit (.int .i64 x.2.1.Now),.lit (.int .i64 x.2.1.Next),.ro (nts.map encNote),.lit (.bool x.2.1.Tally0.Known),.lit (.int .i64 x.2.1.Tally0.Got),.lit (.int .i64 x.2.1.Tally0.Sent),.lit (.bool x.2.1.Tally1.Known),.lit (.int .i64 x.2.1.Tally1.Got),.lit (.int .i64 x.2.1.Tally1.Sent),.lit (.bool x.2.1.Tally2.Known),.lit (.int .i64 x.2.1.Tally2.Got),.lit (.int .i64 x.2.1.Tally2.Sent),.lit (.bool x.2.1.Tally3.Known),.lit (.int .i64 x.2.1.Tally3.Got),.lit (.int .i64 x.2.1.Tally3.Sent),.lit (.bool x.2.1.Retry),.lit (.int .i64 x.2.1.Shed)])),(1,some (.box 28 [.lit (.int .u64 0),.lit (.int .i64 0),.lit (.int .i64 0),.lit (.slice none 0 0),.lit (.bool false),.lit (.int .i64 0),.lit (.int .i64 0),.lit (.bool false),.lit (.int .i64 0),.lit (.int .i64 0),.lit (.bool false),.lit (.int .i64 0),.lit (.int .i64 0),.lit (.bool false),.lit (.int .i64 0),.lit (.int .i64 0),.lit (.bool false),.lit (.int .i64 0)])),(2,some (.row 90 29 (left.map encNote))),(3,some (.box 90 (encNote x.1)))],4,Tryz.f45.ntmps⟩) (fun x=>x=(n1,g1,o1)) ?_ ?_
    · (repeat' first|(refine go_ ?_;((repeat' first|exact True.intro|refine Two.mk ?_ ?_);all_goals intros))|fail "")
      all_goals try (exfalso;omega)
      refine r_for (fun x:Nat×DNote×DGate×List DMail=>⟨[(2,.ptr 0 0 0 0),(4,.ptr 1 0 0 0),(5,.lit (.slice none 0 0)),(19,.ro (nts.map encNote)),(20,.lit (.int .i64 nts.length)),(21,.lit (.int .i64 k)),(6,.own 2),(1,.ro (x.2.2.2.map encMail)),(8,.ptr 3 0 0 0),(9,.lit (.int .i64 x.1))],[(0,some (.box 28 [.lit (.int .u64 x.2.2.1.Secret),.lit (.int .i64 x.2.2.1.Now),.lit (.int .i64 x.2.2.1.Next),.ro (nts.map encNote),.lit (.bool x.2.2.1.Tally0.Known),.lit (.int .i64 x.2.2.1.Tally0.Got),.lit (.int .i64 x.2.2.1.Tally0.Sent),.lit (.bool x.2.2.1.Tally1.Known),.lit (.int .i64 x.2.2.1.Tally1.Got),.lit (.int .i64 x.2.2.1.Tally1.Sent),.lit (.bool x.2.2.1.Tally2.Known),.lit (.int .i64 x.2.2.1.Tally2.Got),.lit (.int .i64 x.2.2.1.Tally2.Sent),.lit (.bool x.2.2.1.Tally3.Known),.lit (.int .i64 x.2.2.1.Tally3.Got),.lit (.int .i64 x.2.2.1.Tally3.Sent),.lit (.bool x.2.2.1.Retry),.lit (.int .i64 x.2.2.1.Shed)])),(1,some (.box 28 [.lit (.int .u64 0),.lit (.int .i64 0),.lit (.int .i64 0),.lit (.slice none 0 0),.lit (.bool false),.lit (.int .i64 0),.lit (.int .i64 0),.lit (.bool false),.lit (.int .i64 0),.lit (.int .i64 0),.lit (.bool false),.lit (.int .i64 0),.lit (.int .i64 0),.lit (.bool false),.lit (.int .i64 0),.lit (.int .i64 0),.lit (.bool false),.lit (.int .i64 0)])),(2,some (.row 90 29 (left.map encNote))),(3,some (.box 90 (encNote x.2.1)))],4,Tryz.f45.ntmps⟩)
        (fun x=>x.1≤3∧NI B x.2.1∧GJ x.2.2.1∧x.2.2.1.Notes=nts∧x.2.2.1.Now=now∧x.2.2.2.length≤out.length+x.1∧ntTell now (3 - x.1) x.2.1 x.2.2.1 x.2.2.2=(n1,g1,o1)) (fun x=>3 - x.1) (0,nts.getD k default,g,out) ⟨by omega,hc,hg,hN,hnow,by dsimp only;omega,hA⟩ (by (exact lessA_)) ?_
      clear hA hI hT hc hg hN hnow hn
      rintro ⟨j,n,g,o⟩ ⟨hj,hc,hg,hN,hnow,hol2,hA⟩
      dsimp only at *
      obtain ⟨nid,nfrom,npeer,nkey,nready,nconn⟩:=n
      have h1:=connFlushed_fn nconn now (HI_wf hc.j hc.l hB)
      have h2:=wayKey_fn nkey false
      have hfr:=hc.f
      have htop:I64 nconn.Space.Top:=hc.j.sp.2.2.2.1
      have hF:=fun he=>flR_I (c:=nconn) (now:=now) hc.j hc.l hB he
      by_cases hj3:j<3
      · obtain ⟨m,hm⟩:∃ m,3 - j=m+1:=⟨3 - j - 1,by omega⟩
        have hm2:3 - (j+1)=m:=by omega
        rw [hm,ntTell_s] at hA
        unfold ntPk at hA
        dsimp only at *
        have hcn:=fun he:(flR nconn now).2.2.2=0=>hc.cn (hF he).j (hF he).l
        unfold ntCn at hcn hA
        dsimp only at hcn hA hfr
        generalize flR nconn now=R at *
        obtain ⟨c1,num,fs,fe⟩:=R
        unfold encFl at h1
        dsimp only at *
        rw [← hnow] at h1
        by_cases he:fe=0
        · subst he
          obtain ⟨f1,f2,f3,f4,f5⟩:=hF rfl
          have hcn:=hcn rfl
          dsimp only at f3 f4 f5
          by_cases hfl:fs.length=0
          · rw [if_neg (fun q=>q.1.2.1 hfl)] at hA
            cases nready
            all_goals
              cases hA
              clear hF hc hcn f1 f2 hg
              (repeat' first|(refine s_call (h1) (h:=?_))|(refine p_call (h1) (h:=?_))|(refine go_ ?_;((repeat' first|exact True.intro|refine Two.mk ?_ ?_);all_goals intros))|fail "")
              all_goals (try dsimp only at *)
              all_goals first
                | (refine ⟨(DNote.mk nid nfrom npeer nkey false nconn,g,o),?_,?_⟩;rotate_left 1;(exact lessA_);(focus (rfl)))
                | (refine ⟨(DNote.mk nid nfrom npeer nkey true nconn,g,o),?_,?_⟩;rotate_left 1;(exact lessA_);(focus (rfl)))
                | (refine ⟨(DNote.mk nid nfrom npeer nkey false nconn,g1,o1),?_,?_⟩;rotate_left 1;(exact lessA_);(focus (rfl)))
                | (refine ⟨(DNote.mk nid nfrom npeer nkey true nconn,g1,o1),?_,?_⟩;rotate_left 1;(exact lessA_);(focus (rfl)))
                | (exfalso;omega)
                | (exfalso;simp only [List.length_map] at *;omega)
                | skip
          · cases nready
            · rw [if_neg (fun q=>Bool.false_ne_true q.1.2.2)] at hA
              cases hA
              clear hF hc hcn f1 f2 hg
              (repeat' first|(refine s_call (h1) (h:=?_))|(refine p_call (h1) (h:=?_))|(refine go_ ?_;((repeat' first|exact True.intro|refine Two.mk ?_ ?_);all_goals intros))|fail "")
              all_goals (try dsimp only at *)
              all_goals first
                | (refine ⟨(DNote.mk nid nfrom npeer nkey false nconn,g,o),?_,?_⟩;rotate_left 1;(exact lessA_);(focus (rfl)))
                | (refine ⟨(DNote.mk nid nfrom npeer nkey true nconn,g,o),?_,?_⟩;rotate_left 1;(exact lessA_);(focus (rfl)))
                | (refine ⟨(DNote.mk nid nfrom npeer nkey false nconn,g1,o1),?_,?_⟩;rotate_left 1;(exact lessA_);(focus (rfl)))
                | (refine ⟨(DNote.mk nid nfrom npeer nkey true nconn,g1,o1),?_,?_⟩;rotate_left 1;(exact lessA_);(focus (rfl)))
                | (exfalso;omega)
                | (exfalso;simp only [List.length_map] at *;omega)
                | skip
            · have h3:=packetOfS_fn (wayV nkey false) nfrom num nconn.Space.Top fs (by unfold I64;omega) f3 htop f4 (by omega)
              have hpl:=pktR_len (wayV nkey false) (shH nfrom) num nconn.Space.Top fs
              generalize pktR (wayV nkey false) (shH nfrom) num nconn.Space.Top fs=P at *
              obtain ⟨pb,pe⟩:=P
              unfold encPk shRaw at h3
              dsimp only at *
              by_cases hpe:pe=0
              · subst hpe
                generalize hS:sendR g npeer pb=S at *
                obtain ⟨G2,ok⟩:=S
                have hsd:=mailed_fn g o npeer pb hg hc.p (by omega) (by omega) ok G2 hS
                have hsI:=sendR_I (p:=npeer) (b:=pb) hg
                rw [hS] at hsI
                unfold encGate at hsd
                rw [hN,hsI.2.1,hN] at hsd
                dsimp only at *
                cases ok
                · rw [if_neg (fun q=>Bool.false_ne_true q.2.2)] at hA
                  have hGg:G2=g:=by
                    unfold sendR at hS
                    split at hS
                    · cases hS
                    · cases hS;rfl
                  subst hGg
                  cases hA
                  rw [if_neg Bool.false_ne_true] at hsd
                  clear hF hc hcn f1 f2 hg hsI
                  (repeat' first|(refine s_call (h1) (h:=?_))|(refine p_call (h1) (h:=?_))|(refine s_call (h2) (h:=?_))|(refine p_call (h2) (h:=?_))|(refine s_call (h3) (h:=?_))|(refine p_call (h3) (h:=?_))|(refine s_call (hsd) (h:=?_))|(refine p_call (hsd) (h:=?_))|(refine go_ ?_;((repeat' first|exact True.intro|refine Two.mk ?_ ?_);all_goals intros))|fail "")
                  all_goals (try dsimp only at *)
                  all_goals first
                    | (refine ⟨(DNote.mk nid nfrom npeer nkey true nconn,G2,o),?_,?_⟩;rotate_left 1;(exact lessA_);(focus (rfl)))
                    | (refine ⟨(DNote.mk nid nfrom npeer nkey true nconn,G2,o1),?_,?_⟩;rotate_left 1;(exact lessA_);(focus (rfl)))
                    | (refine ⟨(DNote.mk nid nfrom npeer nkey true nconn,g1,o1),?_,?_⟩;rotate_left 1;(exact lessA_);(focus (rfl)))
                    | (refine ⟨(DNote.mk nid nfrom npeer nkey true nconn,g,o),?_,?_⟩;rotate_left 1;(exact lessA_);(focus (rfl)))
                    | (exfalso;omega)
                    | (exfalso;simp only [List.length_map] at *;omega)
                    | skip
                · rw [if_pos ⟨⟨rfl,hfl,rfl⟩,rfl,rfl⟩] at hA
                  rw [if_pos rfl] at hsd
                  obtain ⟨s1,s2,s3⟩:=hsI
                  clear hF hc f1 f2 hg
                  (repeat' first|(refine s_call (h1) (h:=?_))|(refine p_call (h1) (h:=?_))|(refine s_call (h2) (h:=?_))|(refine p_call (h2) (h:=?_))|(refine s_call (h3) (h:=?_))|(refine p_call (h3) (h:=?_))|(refine s_call (hsd) (h:=?_))|(refine p_call (hsd) (h:=?_))|(refine go_ ?_;((repeat' first|exact True.intro|refine Two.mk ?_ ?_);all_goals intros))|fail "")
                  all_goals (try dsimp only at *)
                  all_goals first
                    | (refine ⟨(j+1,⟨nid,nfrom,npeer,nkey,true,c1⟩,G2,o++[⟨npeer,pb⟩]),?_,?_,?_⟩;rotate_left 2;(exact lessA_);(exact Z66_);(exact Z3_))
                    | (exfalso;omega)
                    | (exfalso;simp only [List.length_map] at *;omega)
                    | skip
              · rw [if_neg (fun q=>hpe q.2.1)] at hA
                cases hA
                clear hF hc hcn f1 f2 hg
                (repeat' first|(refine s_call (h1) (h:=?_))|(refine p_call (h1) (h:=?_))|(refine s_call (h2) (h:=?_))|(refine p_call (h2) (h:=?_))|(refine s_call (h3) (h:=?_))|(refine p_call (h3) (h:=?_))|(refine go_ ?_;((repeat' first|exact True.intro|refine Two.mk ?_ ?_);all_goals intros))|fail "")
                all_goals (try dsimp only at *)
                all_goals first
                  | (refine ⟨(DNote.mk nid nfrom npeer nkey false nconn,g,o),?_,?_⟩;rotate_left 1;(exact lessA_);(focus (rfl)))
                  | (refine ⟨(DNote.mk nid nfrom npeer nkey true nconn,g,o),?_,?_⟩;rotate_left 1;(exact lessA_);(focus (rfl)))
                  | (refine ⟨(DNote.mk nid nfrom npeer nkey false nconn,g1,o1),?_,?_⟩;rotate_left 1;(exact lessA_);(focus (rfl)))
                  | (refine ⟨(DNote.mk nid nfrom npeer nkey true nconn,g1,o1),?_,?_⟩;rotate_left 1;(exact lessA_);(focus (rfl)))
                  | (exfalso;omega)
                  | (exfalso;simp only [List.length_map] at *;omega)
                  | skip
        · rw [if_neg (fun q=>he q.1.1)] at hA
          cases nready
          all_goals
            cases hA
            clear hF hc hcn hg
            (repeat' first|(refine s_call (h1) (h:=?_))|(refine p_call (h1) (h:=?_))|(refine go_ ?_;((repeat' first|exact True.intro|refine Two.mk ?_ ?_);all_goals intros))|fail "")
            all_goals (try dsimp only at *)
            all_goals first
              | (refine ⟨(DNote.mk nid nfrom npeer nkey false nconn,g,o),?_,?_⟩;rotate_left 1;(exact lessA_);(focus (rfl)))
              | (refine ⟨(DNote.mk nid nfrom npeer nkey true nconn,g,o),?_,?_⟩;rotate_left 1;(exact lessA_);(focus (rfl)))
              | (refine ⟨(DNote.mk nid nfrom npeer nkey false nconn,g1,o1),?_,?_⟩;rotate_left 1;(exact lessA_);(focus (rfl)))
              | (refine ⟨(DNote.mk nid nfrom npeer nkey true nconn,g1,o1),?_,?_⟩;rotate_left 1;(exact lessA_);(focus (rfl)))
              | (exfalso;omega)
              | (exfalso;simp only [List.length_map] at *;omega)
              | skip
      · have hj0:3 - j=0:=by omega
        rw [hj0] at hA
        unfold ntTell at hA
        cases nready
        all_goals
          cases hA
          clear hF hc hg h1 h2
          (repeat' first|(refine go_ ?_;((repeat' first|exact True.intro|refine Two.mk ?_ ?_);all_goals intros))|fail "")
          all_goals (try dsimp only at *)
          all_goals first
            | (refine ⟨(DNote.mk nid nfrom npeer nkey false nconn,g,o),?_,?_⟩;rotate_left 1;(exact lessA_);(focus (rfl)))
            | (refine ⟨(DNote.mk nid nfrom npeer nkey true nconn,g,o),?_,?_⟩;rotate_left 1;(exact lessA_);(focus (rfl)))
            | (refine ⟨(DNote.mk nid nfrom npeer nkey false nconn,g1,o1),?_,?_⟩;rotate_left 1;(exact lessA_);(focus (rfl)))
            | (refine ⟨(DNote.mk nid nfrom npeer nkey true nconn,g1,o1),?_,?_⟩;rotate_left 1;(exact lessA_);(focus (rfl)))
            | (exfalso;omega)
            | (exfalso;simp only [List.length_map] at *;omega)
            | skip
    rintro _ rfl
    dsimp only
    obtain ⟨a1,a2,a3,a4,a5,a6⟩:=hI
    clear hA
    obtain ⟨nid,nfrom,npeer,nkey,nready,nconn⟩:=n1
    obtain ⟨b0,space,pace,flow,credit,ids,grant,opened,lanes,b1,queue,last,resets,b2,code⟩:=nconn
    dsimp only at *
    cases b2
    · rw [if_neg Bool.false_ne_true] at hT
      clear a1
      (repeat' first|(refine s_app (r:=(left++[DNote.mk nid nfrom npeer nkey nready (DConn.mk b0 space pace flow credit ids grant opened lanes b1 queue last resets false code)]).map encNote) ?_ ?_ ?_ ?_ (h:=?_);(exact Z65_);(exact Z47_);(exact Z12_);(exact Z22_))|(refine s_app0R (r:=(left++[DNote.mk nid nfrom npeer nkey nready (DConn.mk b0 space pace flow credit ids grant opened lanes b1 queue last resets false code)]).map encNote) ?_ ?_ ?_ ?_ (h:=?_);(exact Z65_);(exact Z47_);(exact Z12_);(exact Z22_))|(refine p_app (r:=(left++[DNote.mk nid nfrom npeer nkey nready (DConn.mk b0 space pace flow credit ids grant opened lanes b1 queue last resets false code)]).map encNote) ?_ ?_ ?_ ?_ (h:=?_);(exact Z65_);(exact Z47_);(exact Z12_);(exact Z22_))|(refine go_ ?_;((repeat' first|exact True.intro|refine Two.mk ?_ ?_);all_goals intros))|fail "")
      all_goals (try dsimp only at *)
      all_goals first
        | (refine ⟨(k+1,g1,o1,left++[⟨nid,nfrom,npeer,nkey,nready,⟨b0,space,pace,flow,credit,ids,grant,opened,lanes,b1,queue,last,resets,false,code⟩⟩]),?_,?_,?_⟩;rotate_left 2;(exact lessA_);(exact Z66_);(exact Z7_))
        | (exfalso;omega)
        | skip
    · rw [if_pos rfl] at hT
      clear a1
      (repeat' first|(refine go_ ?_;((repeat' first|exact True.intro|refine Two.mk ?_ ?_);all_goals intros))|fail "")
      all_goals (try dsimp only at *)
      all_goals first
        | (refine ⟨(k+1,g1,o1,left),?_,?_,?_⟩;rotate_left 2;(exact lessA_);(exact Z66_);(exact Z18_))
        | (exfalso;omega)
        | skip
  · have hkl:k=nts.length:=by omega
    subst hkl
    rw [List.drop_length] at hT
    unfold ntAll at hT
    cases hT
    clear hn
    (repeat' first|(refine go_ ?_;((repeat' first|exact True.intro|refine Two.mk ?_ ?_);all_goals intros))|fail "")
    all_goals first
      | (exact endwA_)
      | (exfalso;omega)
      | skip
end Go.Proofs.YtendheafcbickaaGreat
