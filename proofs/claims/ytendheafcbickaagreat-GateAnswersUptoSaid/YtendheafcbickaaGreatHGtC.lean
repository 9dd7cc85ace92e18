
import Derived.Test.YtendheafcbickaaGreatHZip
import Derived.Test.YtendheafcbickaaGreatHGo
import Derived.Test.YtendheafcbickaaGreatHMg06
import Derived.Test.YtendheafcbickaaGreatHCnF
import Derived.Test.YtendheafcbickaaGreatHMg16
set_option linter.unusedVariables false
set_option linter.unusedSimpArgs false
set_option linter.unusedVariables false
namespace Go.Proofs.YtendheafcbickaaGreat
set_option maxRecDepth 100000
attribute [local irreducible] Run RunL QStep GStep Fn Less PL FnM
def gtNum (g:DGate):Prop:=(0≤g.Now∧g.Now≤1099511627776)∧(1≤g.Next∧g.Next≤256)∧g.Notes.length≤3∧0≤g.Shed∧g.Shed≤1099511627776
def gtTal (g:DGate):Nat→DTally
  | 0=>g.Tally0
  | 1=>g.Tally1
  | 2=>g.Tally2
  | _=>g.Tally3
def ntPrev (l:List DNote) (i:Nat):Int:=if i=0 then 0 else (l.getD (i - 1) default).Id
theorem ntPrev_0 (l:List DNote):ntPrev l 0=0:=rfl
theorem ntPrev_s (l:List DNote) (i:Nat):ntPrev l (i+1)=(l.getD i default).Id:=by
  unfold ntPrev
  rw [if_neg (by omega),Nat.add_sub_cancel]
def ntOk (g:DGate) (i:Nat):Prop:=(ntPrev g.Notes i<(g.Notes.getD i default).Id∧(g.Notes.getD i default).Id<g.Next∧(0≤(g.Notes.getD i default).From∧(g.Notes.getD i default).From≤255)∧0≤(g.Notes.getD i default).Peer∧(g.Notes.getD i default).Peer≤3)∧cnFlt (g.Notes.getD i default).Conn=0∧(g.Notes.getD i default).Conn.Client=false
def gtOk (g:DGate):Prop:=(gtNum g∧AllTo (fun i=>tFlt (gtTal g i)=0) 4)∧AllTo (ntOk g) g.Notes.length
noncomputable def gtFlt (g:DGate):Int:=if yes (gtOk g)=true then 0 else 9
theorem gtFlt_t {g:DGate} (h:gtOk g):gtFlt g=0:=if_pos (yes_of h)
theorem gtFlt_f {g:DGate} (h:¬ gtOk g):gtFlt g=9:=if_neg (by rw [no_of h];exact Bool.false_ne_true)
def gtBeg (secret:Int) (retry:Bool):DGate:=⟨secret,0,1,[],⟨false,0,0⟩,⟨false,0,0⟩,⟨false,0,0⟩,⟨false,0,0⟩,retry,0⟩
set_option maxHeartbeats 4000000 in
theorem gateCheck_fn (g:DGate) (hw:wfGate g):Fn Tryz.prog 35 [.agg (encGate g)] (.lit (.int .i64 (gtFlt g))):=by
  obtain ⟨w0,w1,w2,w3,w4,w5,w6,w7,w8,w9⟩:=hw
  have t0:=tallyCheck_fn g.Tally0 w5
  have t1:=tallyCheck_fn g.Tally1 w6
  have t2:=tallyCheck_fn g.Tally2 w7
  have t3:=tallyCheck_fn g.Tally3 w8
  clear w0 w5 w6 w7 w8
  unfold I64 at w1 w2 w9
  refine fn_of_run (by kernel_rfl) Tryz.func35 rfl (by kernel_rfl) ?_
  refine r_seq ?_
  refine r_region ?_
  (repeat' first|(refine goS_ ?_;((repeat' first|exact True.intro|refine Two.mk ?_ ?_);all_goals intros))|fail "")
  refine thenQ_n ?_
  refine r_cut (fun ok:Bool=>⟨[(1,.ptr 0 0 0 0),(2,.lit (.int .i64 0)),(3,.lit (.bool ok))],[(0,some (.box 28 (encGate g)))],1,Tryz.f35.ntmps⟩) (fun ok=>ok=true ↔ gtNum g) ?_ ?_
  · unfold gtNum
    (repeat' first|(refine go_ ?_;((repeat' first|exact True.intro|refine Two.mk ?_ ?_);all_goals intros))|fail "")
    all_goals first
      | (refine ⟨true,?_,?_⟩;rotate_left 1;(exact lessA_);(exact Z62_))
      | (refine ⟨false,?_,?_⟩;rotate_left 1;(exact lessA_);(exact Z56_))
      | skip
  rintro ok hok
  clear w1 w9
  (repeat' first|(refine go_ ?_;((repeat' first|exact True.intro|refine Two.mk ?_ ?_);all_goals intros))|fail "")
  refine r_for (fun x:Nat×Bool=>⟨[(1,.ptr 0 0 0 0),(2,.lit (.int .i64 0)),(3,.lit (.bool x.2)),(44,.agg [.lit (.bool g.Tally0.Known),.lit (.int .i64 g.Tally0.Got),.lit (.int .i64 g.Tally0.Sent),.lit (.bool g.Tally1.Known),.lit (.int .i64 g.Tally1.Got),.lit (.int .i64 g.Tally1.Sent),.lit (.bool g.Tally2.Known),.lit (.int .i64 g.Tally2.Got),.lit (.int .i64 g.Tally2.Sent),.lit (.bool g.Tally3.Known),.lit (.int .i64 g.Tally3.Got),.lit (.int .i64 g.Tally3.Sent)]),(45,.lit (.int .i64 x.1))],[(0,some (.box 28 (encGate g)))],1,Tryz.f35.ntmps⟩)
    (fun x=>x.1≤4∧(x.2=true ↔ gtNum g∧AllTo (fun i=>tFlt (gtTal g i)=0) x.1)) (fun x=>4 - x.1) (0,ok) ⟨Nat.zero_le _,by rw [hok];exact ⟨fun h=>⟨h,allTo0⟩,fun h=>h.1⟩⟩ (by (try dsimp only);(exact lessA_)) ?_
  clear ok hok
  rintro ⟨k,ok⟩ ⟨hk,hi⟩
  dsimp only at hk hi ⊢
  by_cases hkn:k<4
  · have hs:=allTo_succ (Q:=fun i=>tFlt (gtTal g i)=0) (k:=k)
    clear w4 hs
    rcases (show k=0∨k=1∨k=2∨k=3 by omega) with rfl|rfl|rfl|rfl
    · have hs:=allTo_succ (Q:=fun i=>tFlt (gtTal g i)=0) (k:=0)
      cases ok
      · have hi:¬ (gtNum g∧AllTo (fun i=>tFlt (gtTal g i)=0) 0):=fun h=>by have:=hi.2 h;cases this
        (repeat' first|refine s_ixs (h:=?_)|(refine go_ ?_;((repeat' first|exact True.intro|refine Two.mk ?_ ?_);all_goals intros))|fail "")
        all_goals first
          | (refine ⟨(0+1,false),?_,?_,?_⟩;rotate_left 2;(exact lessA_);(exact Z66_);(exact Z44_))
          | skip
      · obtain ⟨hh,ha⟩:=hi.1 rfl
        (repeat' first|refine s_ixs (h:=?_)|(refine s_call (t0) (h:=?_))|(refine p_call (t0) (h:=?_))|(refine go_ ?_;((repeat' first|exact True.intro|refine Two.mk ?_ ?_);all_goals intros))|fail "")
        all_goals first
          | (refine ⟨(0+1,true),?_,?_,?_⟩;rotate_left 2;(exact lessA_);(exact Z66_);(exact Z48_))
          | (refine ⟨(0+1,false),?_,?_,?_⟩;rotate_left 2;(exact lessA_);(exact Z66_);(exact Z35_))
          | skip
    · have hs:=allTo_succ (Q:=fun i=>tFlt (gtTal g i)=0) (k:=1)
      cases ok
      · have hi:¬ (gtNum g∧AllTo (fun i=>tFlt (gtTal g i)=0) 1):=fun h=>by have:=hi.2 h;cases this
        (repeat' first|refine s_ixs (h:=?_)|(refine go_ ?_;((repeat' first|exact True.intro|refine Two.mk ?_ ?_);all_goals intros))|fail "")
        all_goals first
          | (refine ⟨(1+1,false),?_,?_,?_⟩;rotate_left 2;(exact lessA_);(exact Z66_);(exact Z44_))
          | skip
      · obtain ⟨hh,ha⟩:=hi.1 rfl
        (repeat' first|refine s_ixs (h:=?_)|(refine s_call (t1) (h:=?_))|(refine p_call (t1) (h:=?_))|(refine go_ ?_;((repeat' first|exact True.intro|refine Two.mk ?_ ?_);all_goals intros))|fail "")
        all_goals first
          | (refine ⟨(1+1,true),?_,?_,?_⟩;rotate_left 2;(exact lessA_);(exact Z66_);(exact Z48_))
          | (refine ⟨(1+1,false),?_,?_,?_⟩;rotate_left 2;(exact lessA_);(exact Z66_);(exact Z35_))
          | skip
    · have hs:=allTo_succ (Q:=fun i=>tFlt (gtTal g i)=0) (k:=2)
      cases ok
      · have hi:¬ (gtNum g∧AllTo (fun i=>tFlt (gtTal g i)=0) 2):=fun h=>by have:=hi.2 h;cases this
        (repeat' first|refine s_ixs (h:=?_)|(refine go_ ?_;((repeat' first|exact True.intro|refine Two.mk ?_ ?_);all_goals intros))|fail "")
        all_goals first
          | (refine ⟨(2+1,false),?_,?_,?_⟩;rotate_left 2;(exact lessA_);(exact Z66_);(exact Z44_))
          | skip
      · obtain ⟨hh,ha⟩:=hi.1 rfl
        (repeat' first|refine s_ixs (h:=?_)|(refine s_call (t2) (h:=?_))|(refine p_call (t2) (h:=?_))|(refine go_ ?_;((repeat' first|exact True.intro|refine Two.mk ?_ ?_);all_goals intros))|fail "")
        all_goals first
          | (refine ⟨(2+1,true),?_,?_,?_⟩;rotate_left 2;(exact lessA_);(exact Z66_);(exact Z48_))
          | (refine ⟨(2+1,false),?_,?_,?_⟩;rotate_left 2;(exact lessA_);(exact Z66_);(exact Z35_))
          | skip
    · have hs:=allTo_succ (Q:=fun i=>tFlt (gtTal g i)=0) (k:=3)
      cases ok
      · have hi:¬ (gtNum g∧AllTo (fun i=>tFlt (gtTal g i)=0) 3):=fun h=>by have:=hi.2 h;cases this
        (repeat' first|refine s_ixs (h:=?_)|(refine go_ ?_;((repeat' first|exact True.intro|refine Two.mk ?_ ?_);all_goals intros))|fail "")
        all_goals first
          | (refine ⟨(3+1,false),?_,?_,?_⟩;rotate_left 2;(exact lessA_);(exact Z66_);(exact Z44_))
          | skip
      · obtain ⟨hh,ha⟩:=hi.1 rfl
        (repeat' first|refine s_ixs (h:=?_)|(refine s_call (t3) (h:=?_))|(refine p_call (t3) (h:=?_))|(refine go_ ?_;((repeat' first|exact True.intro|refine Two.mk ?_ ?_);all_goals intros))|fail "")
        all_goals first
          | (refine ⟨(3+1,true),?_,?_,?_⟩;rotate_left 2;(exact lessA_);(exact Z66_);(exact Z48_))
          | (refine ⟨(3+1,false),?_,?_,?_⟩;rotate_left 2;(exact lessA_);(exact Z66_);(exact Z35_))
          | skip
  have hkl:k=4:=by omega
  subst hkl
  clear hkn hk t0 t1 t2 t3
  have hll:g.Notes.length≤1000000000000000:=by omega
  generalize hA:AllTo (fun i=>tFlt (gtTal g i)=0) 4=A at hi
  (repeat' first|(refine go_ ?_;((repeat' first|exact True.intro|refine Two.mk ?_ ?_);all_goals intros))|fail "")
  refine r_for (fun x:Nat×Bool=>⟨[(1,.ptr 0 0 0 0),(2,.lit (.int .i64 0)),(3,.lit (.bool x.2)),(6,.lit (.int .i64 (ntPrev g.Notes x.1))),(56,.ro (g.Notes.map encNote)),(57,.lit (.int .i64 g.Notes.length)),(58,.lit (.int .i64 x.1))],[(0,some (.box 28 (encGate g)))],1,Tryz.f35.ntmps⟩)
    (fun x=>x.1≤g.Notes.length∧(x.2=true ↔ (gtNum g∧A)∧AllTo (ntOk g) x.1)) (fun x=>g.Notes.length - x.1) (0,ok) ⟨Nat.zero_le _,by rw [hi];exact ⟨fun h=>⟨h,allTo0⟩,fun h=>h.1⟩⟩ (by (try dsimp only);(try rw [ntPrev_0]);(exact lessA_)) ?_
  clear ok hi
  rintro ⟨k,ok⟩ ⟨hk,hi⟩
  dsimp only at hk hi ⊢
  by_cases hkn:k<g.Notes.length
  · have hs:=allTo_succ (Q:=ntOk g) (k:=k)
    have hp:=ntPrev_s g.Notes k
    have hwl:=w4 _ (getD_mem hkn)
    have h1:=connCheck_fn _ hwl.2.2.2.2
    cases ok
    · have hi:¬ ((gtNum g∧A)∧AllTo (ntOk g) k):=fun h=>by have:=hi.2 h;cases this
      generalize ntPrev g.Notes k=pv
      (repeat' first|(refine go_ ?_;((repeat' first|exact True.intro|refine Two.mk ?_ ?_);all_goals intros))|fail "")
      all_goals first
        | (refine ⟨(k+1,false),?_,?_,?_⟩;rotate_left 2;(exact lessA_);(exact Z66_);(exact Z46_))
        | skip
    · obtain ⟨hh,ha⟩:=hi.1 rfl
      unfold ntOk at hs
      generalize ntPrev g.Notes k=pv at *
      (repeat' first|(refine s_call (h1) (h:=?_))|(refine p_call (h1) (h:=?_))|(refine go_ ?_;((repeat' first|exact True.intro|refine Two.mk ?_ ?_);all_goals intros))|fail "")
      all_goals first
        | (refine ⟨(k+1,false),?_,?_,?_⟩;rotate_left 2;(exact lessA_);(exact Z66_);(exact Z23_))
        | (cases hb:(g.Notes.getD k default).Conn.Client;(focus (refine ⟨(k+1,true),?_,?_,?_⟩;rotate_left 2;(exact lessA_);(exact Z66_);(exact Z37_)));(focus (refine ⟨(k+1,false),?_,?_,?_⟩;rotate_left 2;(exact lessA_);(exact Z66_);(exact Z24_))))
        | skip
  have hkl:k=g.Notes.length:=by omega
  subst hkl
  subst hA
  cases ok
  · rw [gtFlt_f (fun h=>by have:=hi.2 h;cases this)]
    (repeat' first|(refine go_ ?_;((repeat' first|exact True.intro|refine Two.mk ?_ ?_);all_goals intros))|fail "")
    all_goals first
      | exact ends_ (hr:=rfl)
      | skip
  · rw [gtFlt_t (hi.1 rfl)]
    (repeat' first|(refine go_ ?_;((repeat' first|exact True.intro|refine Two.mk ?_ ?_);all_goals intros))|fail "")
    all_goals first
      | exact ends_ (hr:=rfl)
      | skip
set_option maxHeartbeats 4000000 in
theorem gateFault_fn (g:DGate) (hu:W.wfGate g):Fn Tryz.prog 41 [.agg (encGate g)] (.lit (.int .i64 (gtFlt g))):=by
  have hw:=W.wf_leGate g hu
  have l4:∀ y,y ∈ g.Notes→W.wfNote y:=hu.2.2.2.2.1
  obtain ⟨w0,w1,w2,w3,w4,w5,w6,w7,w8,w9⟩:=hw
  clear hu
  have t0:=tallyFaultRef_fn g.Tally0 w5
  have t1:=tallyFaultRef_fn g.Tally1 w6
  have t2:=tallyFaultRef_fn g.Tally2 w7
  have t3:=tallyFaultRef_fn g.Tally3 w8
  clear w0 w5 w6 w7 w8
  unfold I64 at w1 w2 w9
  refine fn_of_run (by kernel_rfl) Tryz.func41 rfl (by kernel_rfl) ?_
  refine r_seq ?_
  refine r_region ?_
  (repeat' first|(refine goS_ ?_;((repeat' first|exact True.intro|refine Two.mk ?_ ?_);all_goals intros))|fail "")
  refine thenQ_n ?_
  refine r_cut (fun ok:Bool=>⟨[(1,.ptr 0 0 0 0),(2,.lit (.int .i64 0)),(3,.lit (.bool ok))],[(0,some (.box 28 (encGate g)))],1,Tryz.f41.ntmps⟩) (fun ok=>ok=true ↔ gtNum g) ?_ ?_
  · unfold gtNum
    (repeat' first|(refine s_dec (upTo_fn _ _) (ht:=?_) (hff:=?_) <;> intro _ <;> try (exfalso;omega))|(refine p_dec (upTo_fn _ _) (ht:=?_) (hff:=?_) <;> intro _ <;> try (exfalso;omega))|(refine go_ ?_;((repeat' first|exact True.intro|refine Two.mk ?_ ?_);all_goals intros))|fail "")
    all_goals (try simp only [IntKind.wrap_i64] at *)
    all_goals first
      | (refine ⟨true,?_,?_⟩;rotate_left 1;(exact lessA_);(exact Z62_))
      | (refine ⟨false,?_,?_⟩;rotate_left 1;(exact lessA_);(exact Z56_))
      | skip
  rintro ok hok
  clear w1 w9
  (repeat' first|(refine go_ ?_;((repeat' first|exact True.intro|refine Two.mk ?_ ?_);all_goals intros))|fail "")
  refine r_for (fun x:Nat×Bool=>⟨[(1,.ptr 0 0 0 0),(2,.lit (.int .i64 0)),(3,.lit (.bool x.2)),(29,.agg [.lit (.bool g.Tally0.Known),.lit (.int .i64 g.Tally0.Got),.lit (.int .i64 g.Tally0.Sent),.lit (.bool g.Tally1.Known),.lit (.int .i64 g.Tally1.Got),.lit (.int .i64 g.Tally1.Sent),.lit (.bool g.Tally2.Known),.lit (.int .i64 g.Tally2.Got),.lit (.int .i64 g.Tally2.Sent),.lit (.bool g.Tally3.Known),.lit (.int .i64 g.Tally3.Got),.lit (.int .i64 g.Tally3.Sent)]),(30,.lit (.int .i64 x.1))],[(0,some (.box 28 (encGate g)))],1,Tryz.f41.ntmps⟩)
    (fun x=>x.1≤4∧(x.2=true ↔ gtNum g∧AllTo (fun i=>tFlt (gtTal g i)=0) x.1)) (fun x=>4 - x.1) (0,ok) ⟨Nat.zero_le _,by rw [hok];exact ⟨fun h=>⟨h,allTo0⟩,fun h=>h.1⟩⟩ (by (try dsimp only);(exact lessA_)) ?_
  clear ok hok
  rintro ⟨k,ok⟩ ⟨hk,hi⟩
  dsimp only at hk hi ⊢
  by_cases hkn:k<4
  · have hs:=allTo_succ (Q:=fun i=>tFlt (gtTal g i)=0) (k:=k)
    clear w4 hs
    rcases (show k=0∨k=1∨k=2∨k=3 by omega) with rfl|rfl|rfl|rfl
    · have hs:=allTo_succ (Q:=fun i=>tFlt (gtTal g i)=0) (k:=0)
      cases ok
      · have hi:¬ (gtNum g∧AllTo (fun i=>tFlt (gtTal g i)=0) 0):=fun h=>by have:=hi.2 h;cases this
        (repeat' first|refine s_ixs (h:=?_)|(refine go_ ?_;((repeat' first|exact True.intro|refine Two.mk ?_ ?_);all_goals intros))|fail "")
        all_goals first
          | (refine ⟨(0+1,false),?_,?_,?_⟩;rotate_left 2;(exact lessA_);(exact Z66_);(exact Z44_))
          | skip
      · obtain ⟨hh,ha⟩:=hi.1 rfl
        (repeat' first|refine s_ixs (h:=?_)|(refine s_call (t0) (h:=?_))|(refine p_call (t0) (h:=?_))|(refine go_ ?_;((repeat' first|exact True.intro|refine Two.mk ?_ ?_);all_goals intros))|fail "")
        all_goals first
          | (refine ⟨(0+1,true),?_,?_,?_⟩;rotate_left 2;(exact lessA_);(exact Z66_);(exact Z48_))
          | (refine ⟨(0+1,false),?_,?_,?_⟩;rotate_left 2;(exact lessA_);(exact Z66_);(exact Z35_))
          | skip
    · have hs:=allTo_succ (Q:=fun i=>tFlt (gtTal g i)=0) (k:=1)
      cases ok
      · have hi:¬ (gtNum g∧AllTo (fun i=>tFlt (gtTal g i)=0) 1):=fun h=>by have:=hi.2 h;cases this
        (repeat' first|refine s_ixs (h:=?_)|(refine go_ ?_;((repeat' first|exact True.intro|refine Two.mk ?_ ?_);all_goals intros))|fail "")
        all_goals first
          | (refine ⟨(1+1,false),?_,?_,?_⟩;rotate_left 2;(exact lessA_);(exact Z66_);(exact Z44_))
          | skip
      · obtain ⟨hh,ha⟩:=hi.1 rfl
        (repeat' first|refine s_ixs (h:=?_)|(refine s_call (t1) (h:=?_))|(refine p_call (t1) (h:=?_))|(refine go_ ?_;((repeat' first|exact True.intro|refine Two.mk ?_ ?_);all_goals intros))|fail "")
        all_goals first
          | (refine ⟨(1+1,true),?_,?_,?_⟩;rotate_left 2;(exact lessA_);(exact Z66_);(exact Z48_))
          | (refine ⟨(1+1,false),?_,?_,?_⟩;rotate_left 2;(exact lessA_);(exact Z66_);(exact Z35_))
          | skip
    · have hs:=allTo_succ (Q:=fun i=>tFlt (gtTal g i)=0) (k:=2)
      cases ok
      · have hi:¬ (gtNum g∧AllTo (fun i=>tFlt (gtTal g i)=0) 2):=fun h=>by have:=hi.2 h;cases this
        (repeat' first|refine s_ixs (h:=?_)|(refine go_ ?_;((repeat' first|exact True.intro|refine Two.mk ?_ ?_);all_goals intros))|fail "")
        all_goals first
          | (refine ⟨(2+1,false),?_,?_,?_⟩;rotate_left 2;(exact lessA_);(exact Z66_);(exact Z44_))
          | skip
      · obtain ⟨hh,ha⟩:=hi.1 rfl
        (repeat' first|refine s_ixs (h:=?_)|(refine s_call (t2) (h:=?_))|(refine p_call (t2) (h:=?_))|(refine go_ ?_;((repeat' first|exact True.intro|refine Two.mk ?_ ?_);all_goals intros))|fail "")
        all_goals first
          | (refine ⟨(2+1,true),?_,?_,?_⟩;rotate_left 2;(exact lessA_);(exact Z66_);(exact Z48_))
          | (refine ⟨(2+1,false),?_,?_,?_⟩;rotate_left 2;(exact lessA_);(exact Z66_);(exact Z35_))
          | skip
    · have hs:=allTo_succ (Q:=fun i=>tFlt (gtTal g i)=0) (k:=3)
      cases ok
      · have hi:¬ (gtNum g∧AllTo (fun i=>tFlt (gtTal g i)=0) 3):=fun h=>by have:=hi.2 h;cases this
        (repeat' first|refine s_ixs (h:=?_)|(refine go_ ?_;((repeat' first|exact True.intro|refine Two.mk ?_ ?_);all_goals intros))|fail "")
        all_goals first
          | (refine ⟨(3+1,false),?_,?_,?_⟩;rotate_left 2;(exact lessA_);(exact Z66_);(exact Z44_))
          | skip
      · obtain ⟨hh,ha⟩:=hi.1 rfl
        (repeat' first|refine s_ixs (h:=?_)|(refine s_call (t3) (h:=?_))|(refine p_call (t3) (h:=?_))|(refine go_ ?_;((repeat' first|exact True.intro|refine Two.mk ?_ ?_);all_goals intros))|fail "")
        all_goals first
          | (refine ⟨(3+1,true),?_,?_,?_⟩;rotate_left 2;(exact lessA_);(exact Z66_);(exact Z48_))
          | (refine ⟨(3+1,false),?_,?_,?_⟩;rotate_left 2;(exact lessA_);(exact Z66_);(exact Z35_))
          | skip
  have hkl:k=4:=by omega
  subst hkl
  clear hkn hk t0 t1 t2 t3
  have hll:g.Notes.length≤1000000000000000:=by omega
  generalize hA:AllTo (fun i=>tFlt (gtTal g i)=0) 4=A at hi
  (repeat' first|(refine go_ ?_;((repeat' first|exact True.intro|refine Two.mk ?_ ?_);all_goals intros))|fail "")
  refine r_for (fun x:Nat×Bool=>⟨[(1,.ptr 0 0 0 0),(2,.lit (.int .i64 0)),(3,.lit (.bool x.2)),(41,.ro (g.Notes.map encNote)),(42,.lit (.int .i64 g.Notes.length)),(43,.lit (.int .i64 x.1))],[(0,some (.box 28 (encGate g)))],1,Tryz.f41.ntmps⟩)
    (fun x=>x.1≤g.Notes.length∧(x.2=true ↔ (gtNum g∧A)∧AllTo (ntOk g) x.1)) (fun x=>g.Notes.length - x.1) (0,ok) ⟨Nat.zero_le _,by rw [hi];exact ⟨fun h=>⟨h,allTo0⟩,fun h=>h.1⟩⟩ (by (try dsimp only);(try rw [ntPrev_0]);(exact lessA_)) ?_
  clear ok hi
  rintro ⟨k,ok⟩ ⟨hk,hi⟩
  dsimp only at hk hi ⊢
  by_cases hkn:k<g.Notes.length
  · have hs:=allTo_succ (Q:=ntOk g) (k:=k)
    have hp:=ntPrev_s g.Notes k
    have hwl:=w4 _ (getD_mem hkn)
    have hul:=l4 _ (getD_mem hkn)
    have h1:=connFault_fn _ hul.2.2.2.2
    have h1f:(g.Notes.getD k default).Conn.Client=false→Fn Tryz.prog 66 [.agg (encConn { (g.Notes.getD k default).Conn with Client:=false })] (.lit (.int .i64 (cnFlt (g.Notes.getD k default).Conn))):=fun h=>by
      have e:{ (g.Notes.getD k default).Conn with Client:=false }=(g.Notes.getD k default).Conn:=by rw [← h]
      rw [e];exact h1
    have hwi:=hwl.1
    unfold I64 at hwi
    cases ok
    · have hi:¬ ((gtNum g∧A)∧AllTo (ntOk g) k):=fun h=>by have:=hi.2 h;cases this
      (repeat' first|(refine go_ ?_;((repeat' first|exact True.intro|refine Two.mk ?_ ?_);all_goals intros))|fail "")
      all_goals first
        | (refine ⟨(k+1,false),?_,?_,?_⟩;rotate_left 2;(exact lessA_);(exact Z66_);(exact Z46_))
        | skip
    · obtain ⟨hh,ha⟩:=hi.1 rfl
      have hop:1≤g.Next∧g.Next≤256:=hh.1.2.1
      have hwr2:IntKind.i64.wrap (g.Next - 2)=g.Next - 2:=by rw [IntKind.wrap_i64];omega
      rcases Nat.eq_zero_or_pos k with h0|h0
      · subst h0
        unfold ntOk at hs
        rw [ntPrev_0] at hs
        (repeat' first|(refine s_call (h1) (h:=?_))|(refine p_call (h1) (h:=?_))|(refine s_dec (upTo_fn _ _) (ht:=?_) (hff:=?_) <;> intro _ <;> try (exfalso;omega))|(refine p_dec (upTo_fn _ _) (ht:=?_) (hff:=?_) <;> intro _ <;> try (exfalso;omega))|(refine go_ ?_;((repeat' first|exact True.intro|refine Two.mk ?_ ?_);all_goals intros))|fail "")
        all_goals (try simp only [IntKind.wrap_i64] at *)
        all_goals first
          | (refine ⟨(0+1,false),?_,?_,?_⟩;rotate_left 2;(exact lessA_);(exact Z66_);(exact Z23_))
          | (cases hb:(g.Notes.getD 0 default).Conn.Client;(focus (have h2:=h1f hb;(try dsimp only [cond_true,cond_false]);(repeat' first|(refine s_call (h2) (h:=?_))|(refine p_call (h2) (h:=?_))|(refine go_ ?_;((repeat' first|exact True.intro|refine Two.mk ?_ ?_);all_goals intros))|fail "");all_goals first|(refine ⟨(0+1,true),?_,?_,?_⟩;rotate_left 2;(exact lessA_);(exact Z66_);(exact Z37_))|(refine ⟨(0+1,false),?_,?_,?_⟩;rotate_left 2;(exact lessA_);(exact Z66_);(exact Z38_))|skip));(focus ((try dsimp only [cond_true,cond_false]);(repeat' first|(refine go_ ?_;((repeat' first|exact True.intro|refine Two.mk ?_ ?_);all_goals intros))|fail "");all_goals first|(refine ⟨(0+1,false),?_,?_,?_⟩;rotate_left 2;(exact lessA_);(exact Z66_);(exact Z24_))|skip)))
          | skip
      · obtain ⟨j,rfl⟩:∃ j,k=j+1:=⟨k - 1,by omega⟩
        have hp2:1≤(g.Notes.getD j default).Id:=by
          clear hs hi
          have:∀ i,i≤j→1≤(g.Notes.getD i default).Id:=by
            intro i
            induction i with
            | zero=>intro _;have:=(ha 0 (by omega)).1.1;rw [ntPrev_0] at this;omega
            | succ i ih=>intro hi;have:=(ha (i+1) (by omega)).1.1;rw [ntPrev_s] at this;have:=ih (by omega);omega
          exact this j (Nat.le_refl _)
        unfold ntOk at hs
        rw [ntPrev_s] at hs
        have ej:((j+1:Nat):Int) - 1=(j:Int):=by omega
        (repeat' first|(refine s_call (h1) (h:=?_))|(refine p_call (h1) (h:=?_))|(refine s_dec (upTo_fn _ _) (ht:=?_) (hff:=?_) <;> intro _ <;> try (exfalso;omega))|(refine p_dec (upTo_fn _ _) (ht:=?_) (hff:=?_) <;> intro _ <;> try (exfalso;omega))|(refine go_ ?_;((repeat' first|exact True.intro|refine Two.mk ?_ ?_);all_goals intros))|fail "")
        all_goals (try simp only [Nat.add_sub_cancel] at *)
        all_goals (try simp only [IntKind.wrap_i64] at *)
        all_goals first
          | (refine ⟨(j+1+1,false),?_,?_,?_⟩;rotate_left 2;(exact lessA_);(exact Z66_);(exact Z23_))
          | (cases hb:(g.Notes.getD (j+1) default).Conn.Client;(focus (have h2:=h1f hb;(try dsimp only [cond_true,cond_false]);(repeat' first|(refine s_call (h2) (h:=?_))|(refine p_call (h2) (h:=?_))|(refine go_ ?_;((repeat' first|exact True.intro|refine Two.mk ?_ ?_);all_goals intros))|fail "");all_goals first|(refine ⟨(j+1+1,true),?_,?_,?_⟩;rotate_left 2;(exact lessA_);(exact Z66_);(exact Z37_))|(refine ⟨(j+1+1,false),?_,?_,?_⟩;rotate_left 2;(exact lessA_);(exact Z66_);(exact Z38_))|skip));(focus ((try dsimp only [cond_true,cond_false]);(repeat' first|(refine go_ ?_;((repeat' first|exact True.intro|refine Two.mk ?_ ?_);all_goals intros))|fail "");all_goals first|(refine ⟨(j+1+1,false),?_,?_,?_⟩;rotate_left 2;(exact lessA_);(exact Z66_);(exact Z24_))|skip)))
          | skip
  have hkl:k=g.Notes.length:=by omega
  subst hkl
  subst hA
  cases ok
  · rw [gtFlt_f (fun h=>by have:=hi.2 h;cases this)]
    (repeat' first|(refine go_ ?_;((repeat' first|exact True.intro|refine Two.mk ?_ ?_);all_goals intros))|fail "")
    all_goals first
      | exact ends_ (hr:=rfl)
      | skip
  · rw [gtFlt_t (hi.1 rfl)]
    (repeat' first|(refine go_ ?_;((repeat' first|exact True.intro|refine Two.mk ?_ ?_);all_goals intros))|fail "")
    all_goals first
      | exact ends_ (hr:=rfl)
      | skip
end Go.Proofs.YtendheafcbickaaGreat
