
import Derived.Test.YtendheafcbickaaGreatHZip
import Derived.Test.YtendheafcbickaaGreatHGo
import Derived.Test.YtendheafcbickaaGreatHCnC
import Derived.Test.YtendheafcbickaaGreatHMg12
import Derived.Test.YtendheafcbickaaGreatHMg13
import Derived.Test.YtendheafcbickaaGreatHFrF
set_option linter.unusedVariables false
set_option linter.unusedSimpArgs false
set_option linter.unusedVariables false
namespace Go.Proofs.YtendheafcbickaaGreat
set_option maxRecDepth 100000
attribute [local irreducible] Run RunL QStep GStep Fn Less PL FnM
theorem allTo_memA {α:Type} [Inhabited α] {l:List α} {Q:α→Prop}:AllTo (fun i=>Q (l.getD i default)) l.length ↔ ∀ x ∈ l,Q x:=by
  constructor
  · intro h x hx
    obtain ⟨i,hi,rfl⟩:=List.getElem_of_mem hx
    have:=h i hi
    dsimp only at this
    rwa [List.getD_eq_getElem?_getD,List.getElem?_eq_getElem hi] at this
  · intro h i hi
    exact h _ (getD_mem hi)
def pkFr (l:List DParcel):List DFrame:=(l.map (·.Frames)).flatten
theorem pkFr_succ {l:List DParcel} {k:Nat} (h:k<l.length):pkFr (l.take (k+1))=pkFr (l.take k)++(l.getD k default).Frames:=by
  unfold pkFr
  rw [List.take_add_one,List.getElem?_eq_getElem h,List.getD_eq_getElem?_getD,List.getElem?_eq_getElem h]
  simp only [List.map_append,List.flatten_append,Option.toList,List.map_cons,List.map_nil,List.flatten_cons,List.flatten_nil,List.append_nil,Option.getD]
theorem mem_pkFr {l:List DParcel} {f:DFrame}:f ∈ pkFr l ↔ ∃ p ∈ l,f ∈ p.Frames:=by
  unfold pkFr
  simp only [List.mem_flatten,List.mem_map]
  constructor
  · rintro ⟨_,⟨p,hp,rfl⟩,hf⟩;exact ⟨p,hp,hf⟩
  · rintro ⟨p,hp,hf⟩;exact ⟨_,⟨p,hp,rfl⟩,hf⟩
theorem cnOk_iff (c:DConn):cnOk c ↔ ((cnA c∧cnNum c)∧AllTo (lnOk c) c.Lanes.length)∧AllTo (fun i=>frFlt ((c.Queue++pkFr c.Space.Sent).getD i default)=0) (c.Queue++pkFr c.Space.Sent).length:=by
  have e1:=allTo_memA (l:=c.Queue++pkFr c.Space.Sent) (Q:=fun x=>frFlt x=0)
  have e2:=allTo_memA (l:=c.Queue) (Q:=fun x=>frFlt x=0)
  have e3:=allTo_memA (l:=c.Space.Sent) (Q:=fun p=>frsOk p.Frames p.Frames.length)
  have e4:=fun l:List DFrame=>allTo_memA (l:=l) (Q:=fun x=>frFlt x=0)
  unfold cnOk
  constructor
  · rintro ⟨⟨h1,h2⟩,h3⟩
    refine ⟨h1,e1.2 fun x hx=>?_⟩
    rcases List.mem_append.1 hx with hx|hx
    · exact e2.1 h2 x hx
    · obtain ⟨p,hp,hf⟩:=mem_pkFr.1 hx
      exact (e4 _).1 (e3.1 h3 p hp) x hf
  · rintro ⟨h1,h2⟩
    have h2:=e1.1 h2
    exact ⟨⟨h1,e2.2 fun x hx=>h2 x (List.mem_append.2 (.inl hx))⟩,e3.2 fun p hp=>(e4 _).2 fun x hx=>h2 x (List.mem_append.2 (.inr (mem_pkFr.2 ⟨p,hp,hx⟩)))⟩
set_option maxHeartbeats 4000000 in
theorem connFault_fn (c:DConn) (hu:W.wfConn c):Fn Tryz.prog 66 [.agg (encConn c)] (.lit (.int .i64 (cnFlt c))):=by
  have hw:=W.wf_leConn c hu
  obtain ⟨w0,w1,w2,w3,w4,w5,w6,w7,w8,w9,w10,w11,w12,w13⟩:=hw
  have l2:c.Space.Sent.length≤1048576:=by have:=hu.1.2.1;omega
  have l3:∀ y,y ∈ c.Space.Sent→U.wfParcel y:=hu.1.2.2.1
  have l4:∀ y,y ∈ c.Space.Sent→wfParcel y:=w0.2.2.1
  have l5:∀ y,y ∈ c.Lanes→W.wfLane y:=hu.2.2.2.2.2.2.2.2.1
  have hql:c.Queue.length≤1048576:=by have:=hu.2.2.2.2.2.2.2.2.2.1;omega
  have h1:=spaceFault_fn c.Space w0
  have h2:=paceFaultRef_fn c.Pace w1
  have h3:=flwFault_fn c.Flow
  have h4:=flwFault_fn c.Credit
  clear w0 w1 w2 w3 hu
  unfold I64 at w4 w5 w6 w11 w12 w13
  have hiff:=cnOk_iff c
  refine fn_of_run (by kernel_rfl) Tryz.func66 rfl (by kernel_rfl) ?_
  refine r_seq ?_
  refine r_region ?_
  (repeat' first|(refine goS_ ?_;((repeat' first|exact True.intro|refine Two.mk ?_ ?_);all_goals intros))|fail "")
  refine thenQ_n ?_
  refine r_cut (fun ok:Bool=>⟨[(1,.ptr 0 0 0 0),(2,.lit (.int .i64 0)),(3,.lit (.bool ok))],[(0,some (.box 51 (encConn c)))],1,Tryz.f66.ntmps⟩) (fun ok=>ok=true ↔ cnA c∧cnNum c) ?_ ?_
  · unfold cnA cnNum
    (repeat' first|(refine s_call (h1) (h:=?_))|(refine p_call (h1) (h:=?_))|(refine s_call (h2) (h:=?_))|(refine p_call (h2) (h:=?_))|(refine s_call (h3) (h:=?_))|(refine p_call (h3) (h:=?_))|(refine s_call (h4) (h:=?_))|(refine p_call (h4) (h:=?_))|(refine s_dec (upTo_fn _ _) (ht:=?_) (hff:=?_) <;> intro _ <;> try (exfalso;omega))|(refine p_dec (upTo_fn _ _) (ht:=?_) (hff:=?_) <;> intro _ <;> try (exfalso;omega))|(refine go_ ?_;((repeat' first|exact True.intro|refine Two.mk ?_ ?_);all_goals intros))|fail "")
    all_goals first
      | (refine ⟨true,?_,?_⟩;rotate_left 1;(exact lessA_);(exact Z62_))
      | (refine ⟨false,?_,?_⟩;rotate_left 1;(exact lessA_);(exact Z56_))
      | skip
  rintro ok hok
  clear h1 h2 h3 h4 w4 w5 w11 w12 w13
  have hll:c.Lanes.length≤1000000000000000:=by omega
  clear w7 w9
  (repeat' first|(refine go_ ?_;((repeat' first|exact True.intro|refine Two.mk ?_ ?_);all_goals intros))|fail "")
  refine r_for (fun x:Nat×Bool=>⟨[(1,.ptr 0 0 0 0),(2,.lit (.int .i64 0)),(3,.lit (.bool x.2)),(76,.ro (c.Lanes.map encLane)),(77,.lit (.int .i64 c.Lanes.length)),(78,.lit (.int .i64 x.1))],[(0,some (.box 51 (encConn c)))],1,Tryz.f66.ntmps⟩)
    (fun x=>x.1≤c.Lanes.length∧(x.2=true ↔ (cnA c∧cnNum c)∧AllTo (lnOk c) x.1)) (fun x=>c.Lanes.length - x.1) (0,ok) ⟨Nat.zero_le _,by rw [hok];exact ⟨fun h=>⟨h,allTo0⟩,fun h=>h.1⟩⟩ (by (try dsimp only);(exact lessA_)) ?_
  clear ok hok
  rintro ⟨k,ok⟩ ⟨hk,hi⟩
  dsimp only at hk hi ⊢
  by_cases hkn:k<c.Lanes.length
  · have hs:=allTo_succ (Q:=lnOk c) (k:=k)
    have hwl:=w8 _ (getD_mem hkn)
    have hul:=l5 _ (getD_mem hkn)
    have h1:=gatherFault_fn _ hwl.2.1
    have h2:=senderFault_fn _ hul.2.2.2
    have hwr:=hwl.2.2.1
    have hwi:=hwl.1
    clear l2 l3 l4 l5 hiff hql w8 w10
    cases ok
    · have hi:¬ ((cnA c∧cnNum c)∧AllTo (lnOk c) k):=fun h=>by have:=hi.2 h;cases this
      (repeat' first|(refine go_ ?_;((repeat' first|exact True.intro|refine Two.mk ?_ ?_);all_goals intros))|fail "")
      all_goals first
        | (refine ⟨(k+1,false),?_,?_,?_⟩;rotate_left 2;(exact lessA_);(exact Z66_);(exact Z46_))
        | skip
    · obtain ⟨hh,ha⟩:=hi.1 rfl
      have hop:0≤c.Opened:=hh.2.2.2.2.2.1
      have hwr2:IntKind.i64.wrap (c.Opened - 1)=c.Opened - 1:=by rw [IntKind.wrap_i64];omega
      rcases Nat.eq_zero_or_pos k with h0|h0
      · subst h0
        unfold lnOk at hs
        rw [lnPrev_0] at hs
        (repeat' first|(refine s_call (h1) (h:=?_))|(refine p_call (h1) (h:=?_))|(refine s_call (h2) (h:=?_))|(refine p_call (h2) (h:=?_))|(refine s_dec (upTo_fn _ _) (ht:=?_) (hff:=?_) <;> intro _ <;> try (exfalso;omega))|(refine p_dec (upTo_fn _ _) (ht:=?_) (hff:=?_) <;> intro _ <;> try (exfalso;omega))|(refine go_ ?_;((repeat' first|exact True.intro|refine Two.mk ?_ ?_);all_goals intros))|fail "")
        all_goals first
          | (refine ⟨(0+1,true),?_,?_,?_⟩;rotate_left 2;(exact lessA_);(exact Z66_);(exact Z52_))
          | (refine ⟨(0+1,false),?_,?_,?_⟩;rotate_left 2;(exact lessA_);(exact Z66_);(exact Z23_))
          | skip
      · obtain ⟨j,rfl⟩:∃ j,k=j+1:=⟨k - 1,by omega⟩
        have hpv:=ha j (by omega)
        have hp2:0≤(c.Lanes.getD j default).Id:=by
          clear hs hi
          have:∀ i,i≤j→0≤(c.Lanes.getD i default).Id:=by
            intro i
            induction i with
            | zero=>intro _;have:=(ha 0 (by omega)).1;rw [lnPrev_0] at this;omega
            | succ i ih=>intro hi;have:=(ha (i+1) (by omega)).1;rw [lnPrev_s] at this;have:=ih (by omega);omega
          exact this j (Nat.le_refl _)
        clear hpv
        unfold lnOk at hs
        rw [lnPrev_s] at hs
        have ej:((j+1:Nat):Int) - 1=(j:Int):=by omega
        (repeat' first|(refine s_call (h1) (h:=?_))|(refine p_call (h1) (h:=?_))|(refine s_call (h2) (h:=?_))|(refine p_call (h2) (h:=?_))|(refine s_dec (upTo_fn _ _) (ht:=?_) (hff:=?_) <;> intro _ <;> try (exfalso;omega))|(refine p_dec (upTo_fn _ _) (ht:=?_) (hff:=?_) <;> intro _ <;> try (exfalso;omega))|(refine go_ ?_;((repeat' first|exact True.intro|refine Two.mk ?_ ?_);all_goals intros))|fail "")
        all_goals (try simp only [Nat.add_sub_cancel] at *)
        all_goals first
          | (refine ⟨(j+1+1,true),?_,?_,?_⟩;rotate_left 2;(exact lessA_);(exact Z66_);(exact Z52_))
          | (refine ⟨(j+1+1,false),?_,?_,?_⟩;rotate_left 2;(exact lessA_);(exact Z66_);(exact Z23_))
          | skip
  have hkl:k=c.Lanes.length:=by omega
  subst hkl
  clear w8 l5 hkn hk
  generalize ((cnA c∧cnNum c)∧AllTo (lnOk c) c.Lanes.length)=B at *
  (repeat' first|(refine s_app (r:=c.Queue.map encFrame) ?_ ?_ ?_ ?_ (h:=?_);(exact Z65_);(exact Z47_);(exact Z12_);(exact Z22_))|(refine s_app0R (r:=c.Queue.map encFrame) ?_ ?_ ?_ ?_ (h:=?_);(exact Z65_);(exact Z47_);(exact Z12_);(exact Z22_))|(refine p_app (r:=c.Queue.map encFrame) ?_ ?_ ?_ ?_ (h:=?_);(exact Z65_);(exact Z47_);(exact Z12_);(exact Z22_))|(refine go_ ?_;((repeat' first|exact True.intro|refine Two.mk ?_ ?_);all_goals intros))|fail "")
  refine r_for (fun k:Nat=>⟨[(2,.lit (.int .i64 0)),(3,.lit (.bool ok)),(6,.own 0),(133,.ro (c.Space.Sent.map encParcel)),(134,.lit (.int .i64 c.Space.Sent.length)),(135,.lit (.int .i64 k))],[(0,some (.row 111 7 ((c.Queue++pkFr (c.Space.Sent.take k)).map encFrame)))],1,Tryz.f66.ntmps⟩)
    (fun k=>k≤c.Space.Sent.length∧(pkFr (c.Space.Sent.take k)).length≤k * 1048576) (fun k=>c.Space.Sent.length - k) 0 ⟨Nat.zero_le _,Nat.zero_le _⟩ (by (try dsimp only);rw [show c.Queue++pkFr (c.Space.Sent.take 0)=c.Queue from List.append_nil _];(exact lessA_)) ?_
  rintro k ⟨hk,hkl⟩
  by_cases hkn:k<c.Space.Sent.length
  · have hup:=(l3 _ (getD_mem hkn)).2.2.2.1
    have hps:=pkFr_succ hkn
    have hle:k * 1048576≤1048576 * 1048576:=Nat.mul_le_mul_right _ (by omega)
    have hla:(c.Queue++pkFr (c.Space.Sent.take k)).length=c.Queue.length+(pkFr (c.Space.Sent.take k)).length:=List.length_append
    have hlb:(pkFr (c.Space.Sent.take (k+1))).length=(pkFr (c.Space.Sent.take k)).length+(c.Space.Sent.getD k default).Frames.length:=by rw [hps,List.length_append]
    (repeat' first|(refine s_app (r:=(c.Queue++pkFr (c.Space.Sent.take (k+1))).map encFrame) ?_ ?_ ?_ ?_ (h:=?_);(exact Z41_);(exact Z47_);(exact Z12_);(exact Z22_))|(refine s_app0R (r:=(c.Queue++pkFr (c.Space.Sent.take (k+1))).map encFrame) ?_ ?_ ?_ ?_ (h:=?_);(exact Z41_);(exact Z47_);(exact Z12_);(exact Z22_))|(refine p_app (r:=(c.Queue++pkFr (c.Space.Sent.take (k+1))).map encFrame) ?_ ?_ ?_ ?_ (h:=?_);(exact Z41_);(exact Z47_);(exact Z12_);(exact Z22_))|(refine go_ ?_;((repeat' first|exact True.intro|refine Two.mk ?_ ?_);all_goals intros))|fail "")
    all_goals first
      | (refine ⟨k+1,?_,?_,?_⟩;rotate_left 2;(exact lessA_);(exact Z69_);(focus (exact ⟨hkn,by omega⟩)))
      | skip
  have hkl2:k=c.Space.Sent.length:=by omega
  subst hkl2
  rw [List.take_length] at *
  have hle:c.Space.Sent.length * 1048576≤1048576 * 1048576:=Nat.mul_le_mul_right _ (by omega)
  have hLl:(c.Queue++pkFr c.Space.Sent).length≤1000000000000000:=by rw [List.length_append];omega
  have hLw:∀ f ∈ c.Queue++pkFr c.Space.Sent,wfFrame f:=fun f hf=>by
    rcases List.mem_append.1 hf with hf|hf
    · exact w10 f hf
    · obtain ⟨p,hp,hf⟩:=mem_pkFr.1 hf
      exact (l4 p hp).2.2.2.2 f hf
  clear hle hkl hk hkn l3 l4 w10 hql l2
  generalize c.Queue++pkFr c.Space.Sent=L at *
  (repeat' first|(refine go_ ?_;((repeat' first|exact True.intro|refine Two.mk ?_ ?_);all_goals intros))|fail "")
  refine r_for (fun x:Nat×Bool=>⟨[(2,.lit (.int .i64 0)),(3,.lit (.bool x.2)),(144,.ro (L.map encFrame)),(145,.lit (.int .i64 L.length)),(146,.lit (.int .i64 x.1))],[],0,Tryz.f66.ntmps⟩)
    (fun x=>x.1≤L.length∧(x.2=true ↔ B∧AllTo (fun i=>frFlt (L.getD i default)=0) x.1)) (fun x=>L.length - x.1) (0,ok) ⟨Nat.zero_le _,by rw [hi];exact ⟨fun h=>⟨h,allTo0⟩,fun h=>h.1⟩⟩ (by (try dsimp only);(exact lessA_)) ?_
  clear ok hi
  rintro ⟨k,ok⟩ ⟨hk,hi⟩
  dsimp only at hk hi ⊢
  by_cases hkn:k<L.length
  · have hs:=allTo_succ (Q:=fun i=>frFlt (L.getD i default)=0) (k:=k)
    have h1:=frameFault_fn _ (hLw _ (getD_mem hkn))
    cases ok
    · have hi:¬ (B∧AllTo (fun i=>frFlt (L.getD i default)=0) k):=fun h=>by have:=hi.2 h;cases this
      (repeat' first|(refine go_ ?_;((repeat' first|exact True.intro|refine Two.mk ?_ ?_);all_goals intros))|fail "")
      all_goals first
        | (refine ⟨(k+1,false),?_,?_,?_⟩;rotate_left 2;(exact lessA_);(exact Z66_);(exact Z46_))
        | skip
    · obtain ⟨hh,ha⟩:=hi.1 rfl
      (repeat' first|(refine s_call (h1) (h:=?_))|(refine p_call (h1) (h:=?_))|(refine go_ ?_;((repeat' first|exact True.intro|refine Two.mk ?_ ?_);all_goals intros))|fail "")
      all_goals first
        | (refine ⟨(k+1,true),?_,?_,?_⟩;rotate_left 2;(exact lessA_);(exact Z66_);(exact Z50_))
        | (refine ⟨(k+1,false),?_,?_,?_⟩;rotate_left 2;(exact lessA_);(exact Z66_);(exact Z23_))
        | skip
  have hkl:k=L.length:=by omega
  subst hkl
  cases ok
  · rw [cnFlt_f (fun h=>by have:=hi.2 (hiff.1 h);cases this)]
    (repeat' first|(refine go_ ?_;((repeat' first|exact True.intro|refine Two.mk ?_ ?_);all_goals intros))|fail "")
    all_goals exact ends_ (hr:=rfl)
  · rw [cnFlt_t (hiff.2 (hi.1 rfl))]
    (repeat' first|(refine go_ ?_;((repeat' first|exact True.intro|refine Two.mk ?_ ?_);all_goals intros))|fail "")
    all_goals exact ends_ (hr:=rfl)
end Go.Proofs.YtendheafcbickaaGreat
