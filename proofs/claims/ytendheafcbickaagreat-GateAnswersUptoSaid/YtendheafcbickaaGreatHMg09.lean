/-
  SEVERAL TEXTS IN ONE: each with its own comment.
-/
import Derived.Test.YtendheafcbickaaGreatHZip
import Derived.Test.YtendheafcbickaaGreatHGo
import Derived.Test.YtendheafcbickaaGreatHRgsCut
import Derived.Test.YtendheafcbickaaGreatHMg06
import Derived.Test.YtendheafcbickaaGreatHAbsB

set_option linter.unusedVariables false
set_option linter.unusedSimpArgs false
set_option linter.unusedVariables false
namespace Go.Proofs.YtendheafcbickaaGreat
set_option maxRecDepth 100000
attribute [local irreducible] Run RunL QStep GStep Fn Less PL
def ovl (x y:DRange):Prop:=max x.Lo y.Lo≤min x.Hi y.Hi
def apartRow (m:List DRange) (x:DRange):Prop:=AllTo (fun j=>¬ ovl x (m.getD j default)) m.length
def apartL (l m:List DRange):Prop:=AllTo (fun i=>apartRow m (l.getD i default)) l.length
set_option maxHeartbeats 2000000 in
theorem overlap_fn (l m:List DRange) (hl:l.length * 16≤140737488351232) (hm:m.length * 16≤140737488351232):Fn Tryz.prog 255 [.ro (l.map encRange),.ro (m.map encRange)] (.lit (.bool (yes (¬ apartL l m)))):=by
  refine fn_of_run (by kernel_rfl) Tryz.func255 rfl (by kernel_rfl) ?_
  (repeat' first|(refine go_ ?_;((repeat' first|exact True.intro|refine Two.mk ?_ ?_);all_goals intros))|fail "")
  refine r_for (fun k:Nat=>⟨[(1,.ro (m.map encRange)),(9,.ro (l.map encRange)),(10,.lit (.int .i64 l.length)),(11,.lit (.int .i64 k))],[],0,Tryz.f255.ntmps⟩)
    (fun k=>k≤l.length∧AllTo (fun i=>apartRow m (l.getD i default)) k) (fun k=>l.length - k) 0 ⟨Nat.zero_le _,allTo0⟩ less_to ?_
  rintro k ⟨hk,ha⟩
  by_cases hkn:k<l.length
  · (repeat' first|(refine go_ ?_;((repeat' first|exact True.intro|refine Two.mk ?_ ?_);all_goals intros))|fail "")
    refine r_for (fun j:Nat=>⟨[(1,.ro (m.map encRange)),(9,.ro (l.map encRange)),(10,.lit (.int .i64 l.length)),(11,.lit (.int .i64 k)),(6,.ptr 0 0 0 0),(15,.ro (m.map encRange)),(16,.lit (.int .i64 m.length)),(17,.lit (.int .i64 j))],[(0,some (.box 146 (encRange (l.getD k default))))],1,Tryz.f255.ntmps⟩)
      (fun j=>j≤m.length∧AllTo (fun j=>¬ ovl (l.getD k default) (m.getD j default)) j) (fun j=>m.length - j) 0 ⟨Nat.zero_le _,allTo0⟩ less_to ?_
    rintro j ⟨hj,hb⟩
    by_cases hjn:j<m.length
    · (repeat' first|(refine go_ ?_;((repeat' first|exact True.intro|refine Two.mk ?_ ?_);all_goals intros))|fail "")
      all_goals first
        | (refine ⟨j+1,?_,?_,?_⟩;rotate_left 2;(exact lessA_);(exact Z69_);(focus (exact ⟨hjn,allTo_succ.2 ⟨hb,by unfold ovl;assumption⟩⟩)))
        | (refine ends_ (hr:=?_);exact yesV (fun h=>h k hkn j hjn (by unfold ovl;assumption)))
    · (repeat' first|(refine go_ ?_;((repeat' first|exact True.intro|refine Two.mk ?_ ?_);all_goals intros))|fail "")
      all_goals (refine ⟨k+1,?_,?_,?_⟩;rotate_left 2;(exact lessA_);(exact Z69_);(focus (exact ⟨hkn,allTo_succ.2 ⟨ha,fun i hi=>hb i (by omega)⟩⟩)))
  · (repeat' first|(refine go_ ?_;((repeat' first|exact True.intro|refine Two.mk ?_ ?_);all_goals intros))|fail "")
    all_goals (refine ends_ (hr:=?_);exact noV (fun h=>h fun i hi=>ha i (by omega)))
end Go.Proofs.YtendheafcbickaaGreat


set_option linter.unusedVariables false
set_option linter.unusedSimpArgs false
set_option linter.unusedVariables false
namespace Go.Proofs.YtendheafcbickaaGreat
set_option maxRecDepth 100000
attribute [local irreducible] Run RunL QStep GStep Fn Less PL
def sndFl (fin en ov:Bool):Bool:=(fin || (!en && !ov)) && !(en && ov)
def sndHead (s:DSender):Prop:=s.Data.length≤600∧0≤s.Next∧s.Next≤s.Data.length∧s.Next≤s.Max∧s.Max≤4611686018427387903∧rFlt s.Lost=0∧rFlt s.Acked=0∧sndFl s.Fin s.Ended s.Over=true∧((s.Ended || s.Over)=true→s.Next=s.Data.length)
def lastLow (n:Int) (l:List DRange):Prop:=0<l.length→(l.getD (l.length - 1) default).Hi<n
def sndOk (s:DSender):Prop:=((sndHead s∧lastLow s.Next s.Lost)∧lastLow s.Next s.Acked)∧apartL s.Lost s.Acked
noncomputable def sndFlt (s:DSender):Int:=if yes (sndOk s)=true then 0 else 9
theorem sndFlt_t {s:DSender} (h:sndOk s):sndFlt s=0:=if_pos (yes_of h)
theorem sndFlt_f {s:DSender} (h:¬ sndOk s):sndFlt s=9:=if_neg (by rw [no_of h];exact Bool.false_ne_true)
theorem sndFlt_cases (s:DSender):(sndFlt s=0∧sndOk s)∨(sndFlt s=9 ∧ ¬ sndOk s):=by
  by_cases h:sndOk s
  · exact .inl ⟨sndFlt_t h,h⟩
  · exact .inr ⟨sndFlt_f h,h⟩
set_option maxHeartbeats 4000000 in
theorem senderCheck_fn (s:DSender) (hw:wfSender s):Fn Tryz.prog 121 [.agg (encSender s)] (.lit (.int .i64 (sndFlt s))):=by
  obtain ⟨w1,w2,w3,w4,w5,w6,w7⟩:=hw
  unfold I64 at w2 w3
  have h1:=rangesCheck_fn s.Lost w5 (by omega)
  have h2:=rangesCheck_fn s.Acked w7 (by omega)
  refine fn_of_run (by kernel_rfl) Tryz.func121 rfl (by kernel_rfl) ?_
  refine r_seq ?_
  refine r_region ?_
  (repeat' first|(refine goS_ ?_;((repeat' first|exact True.intro|refine Two.mk ?_ ?_);all_goals intros))|fail "")
  refine thenQ_n ?_
  refine r_cut (fun ok:Bool=>⟨[(1,.ptr 0 0 0 0),(2,.lit (.int .i64 0)),(3,.lit (.bool ok))],[(0,some (.box 132 (encSender s)))],1,Tryz.f121.ntmps⟩) (fun ok=>ok=true ↔ sndHead s) ?_ ?_
  · unfold sndHead
    obtain ⟨data,fin,next,mx,lost,acked,en,ov⟩:=s
    dsimp only at *
    by_cases hq:data.length≤600∧0≤next∧next≤data.length∧next≤mx∧mx≤4611686018427387903∧rFlt lost=0∧rFlt acked=0
    · obtain ⟨q1,q2,q3,q4,q5,q6,q7⟩:=hq
      clear w5 w7
      cases fin <;> cases en <;> cases ov
      all_goals (repeat' first|(refine s_call (h1) (h:=?_))|(refine p_call (h1) (h:=?_))|(refine s_call (h2) (h:=?_))|(refine p_call (h2) (h:=?_))|(refine go_ ?_;((repeat' first|exact True.intro|refine Two.mk ?_ ?_);all_goals intros))|fail "")
      all_goals first
        | (refine ⟨true,?_,?_⟩;rotate_left 1;(exact lessA_);(focus (exact ⟨fun _=>⟨q1,q2,q3,q4,q5,q6,q7,rfl,fun h=>(by first|omega|cases h)⟩,fun _=>rfl⟩)))
        | (refine ⟨false,?_,?_⟩;rotate_left 1;(exact lessA_);(focus (exact ⟨(fun h=>by cases h),fun h=>(by obtain ⟨_,_,_,_,_,_,_,q8,q9⟩:=h;first|(cases q8;done)|(exfalso;have q9:=q9 rfl;omega))⟩)))
        | skip
    · clear w5 w7
      (repeat' first|(refine s_call (h1) (h:=?_))|(refine p_call (h1) (h:=?_))|(refine s_call (h2) (h:=?_))|(refine p_call (h2) (h:=?_))|(refine go_ ?_;((repeat' first|exact True.intro|refine Two.mk ?_ ?_);all_goals intros))|fail "")
      all_goals first
        | (refine ⟨false,?_,?_⟩;rotate_left 1;(exact lessA_);(focus (exact ⟨(fun h=>by cases h),fun h=>absurd ⟨h.1,h.2.1,h.2.2.1,h.2.2.2.1,h.2.2.2.2.1,h.2.2.2.2.2.1,h.2.2.2.2.2.2.1⟩ hq⟩)))
        | skip
  rintro ok hok
  clear h1 h2
  cases ok
  · have hn:¬ sndOk s:=fun h=>by have:=hok.2 h.1.1.1;cases this
    rw [sndFlt_f hn]
    (repeat' first|(refine go_ ?_;((repeat' first|exact True.intro|refine Two.mk ?_ ?_);all_goals intros))|fail "")
    all_goals exact ends_ (hr:=rfl)
  have hh:=hok.1 rfl
  clear hok
  have hs1:=rFlt_set hh.2.2.2.2.2.1
  have hs2:=rFlt_set hh.2.2.2.2.2.2.1
  have hnx:0≤s.Next∧s.Next≤600:=by unfold sndHead at hh;omega
  (repeat' first|(refine go_ ?_;((repeat' first|exact True.intro|refine Two.mk ?_ ?_);all_goals intros))|fail "")
  refine r_for (fun j:Nat=>⟨[(1,.ptr 0 0 0 0),(2,.lit (.int .i64 0)),(99,.agg [.ro (s.Lost.map encRange),.ro (s.Acked.map encRange)]),(100,.lit (.int .i64 j))],[(0,some (.box 132 (encSender s)))],1,Tryz.f121.ntmps⟩)
    (fun j=>j≤2∧(0<j→lastLow s.Next s.Lost)∧(1<j→lastLow s.Next s.Acked)) (fun j=>2 - j) 0 ⟨by omega,fun h=>absurd h (by omega),fun h=>absurd h (by omega)⟩ less_to ?_
  rintro j ⟨hj,ha,hb⟩
  obtain rfl|rfl|rfl:j=0∨j=1∨j=2:=by omega
  · by_cases h0:0<s.Lost.length
    · have e1:((s.Lost.length - 1:Nat):Int)=(s.Lost.length:Int) - 1:=by omega
      (repeat' first|(refine go_ ?_;((repeat' first|exact True.intro|refine Two.mk ?_ ?_);all_goals intros))|fail "")
      all_goals first
        | (refine ⟨1,?_,?_,?_⟩;rotate_left 2;(exact lessA_);(exact Z69_);(focus (exact ⟨by omega,fun _ _=>by omega,fun h=>absurd h (by omega)⟩)))
        | (refine ends_ (hr:=?_);rw [sndFlt_f (fun h=>by have:=h.1.1.2 h0;omega)])
    · (repeat' first|(refine go_ ?_;((repeat' first|exact True.intro|refine Two.mk ?_ ?_);all_goals intros))|fail "")
      all_goals (refine ⟨1,?_,?_,?_⟩;rotate_left 2;(exact lessA_);(exact Z69_);(focus (exact ⟨by omega,fun _ h=>absurd h h0,fun h=>absurd h (by omega)⟩)))
  · have ha:=ha (by omega)
    by_cases h0:0<s.Acked.length
    · have e1:((s.Acked.length - 1:Nat):Int)=(s.Acked.length:Int) - 1:=by omega
      (repeat' first|(refine go_ ?_;((repeat' first|exact True.intro|refine Two.mk ?_ ?_);all_goals intros))|fail "")
      all_goals first
        | (refine ⟨2,?_,?_,?_⟩;rotate_left 2;(exact lessA_);(exact Z69_);(focus (exact ⟨by omega,fun _=>ha,fun _ _=>by omega⟩)))
        | (refine ends_ (hr:=?_);rw [sndFlt_f (fun h=>by have:=h.1.2 h0;omega)])
    · (repeat' first|(refine go_ ?_;((repeat' first|exact True.intro|refine Two.mk ?_ ?_);all_goals intros))|fail "")
      all_goals (refine ⟨2,?_,?_,?_⟩;rotate_left 2;(exact lessA_);(exact Z69_);(focus (exact ⟨by omega,fun _=>ha,fun _ h=>absurd h h0⟩)))
  have ha:=ha (by omega)
  have hb:=hb (by omega)
  (repeat' first|(refine go_ ?_;((repeat' first|exact True.intro|refine Two.mk ?_ ?_);all_goals intros))|fail "")
  refine r_for (fun k:Nat=>⟨[(1,.ptr 0 0 0 0),(2,.lit (.int .i64 0)),(120,.ro (s.Lost.map encRange)),(121,.lit (.int .i64 s.Lost.length)),(122,.lit (.int .i64 k))],[(0,some (.box 132 (encSender s)))],1,Tryz.f121.ntmps⟩)
    (fun k=>k≤s.Lost.length∧AllTo (fun i=>apartRow s.Acked (s.Lost.getD i default)) k) (fun k=>s.Lost.length - k) 0 ⟨Nat.zero_le _,allTo0⟩ less_to ?_
  rintro k ⟨hk,hd⟩
  by_cases hkn:k<s.Lost.length
  · have hx:=(rSet_good hs1 _ (getD_mem hkn)).1
    unfold rGood at hx
    (repeat' first|(refine go_ ?_;((repeat' first|exact True.intro|refine Two.mk ?_ ?_);all_goals intros))|fail "")
    refine r_for (fun j:Nat=>⟨[(1,.ptr 0 0 0 0),(2,.lit (.int .i64 0)),(120,.ro (s.Lost.map encRange)),(121,.lit (.int .i64 s.Lost.length)),(122,.lit (.int .i64 k)),(8,.ptr 1 0 0 0),(127,.ro (s.Acked.map encRange)),(128,.lit (.int .i64 s.Acked.length)),(129,.lit (.int .i64 j))],[(0,some (.box 132 (encSender s))),(1,some (.box 146 (encRange (s.Lost.getD k default))))],2,Tryz.f121.ntmps⟩)
      (fun j=>j≤s.Acked.length∧AllTo (fun j=>¬ ovl (s.Lost.getD k default) (s.Acked.getD j default)) j) (fun j=>s.Acked.length - j) 0 ⟨Nat.zero_le _,allTo0⟩ less_to ?_
    rintro j ⟨hj,he⟩
    by_cases hjn:j<s.Acked.length
    · have hy:=(rSet_good hs2 _ (getD_mem hjn)).1
      unfold rGood at hy
      (repeat' first|(refine go_ ?_;((repeat' first|exact True.intro|refine Two.mk ?_ ?_);all_goals intros))|fail "")
      all_goals first
        | (refine ⟨j+1,?_,?_,?_⟩;rotate_left 2;(exact lessA_);(exact Z69_);(focus (exact ⟨hjn,allTo_succ.2 ⟨he,by unfold ovl;omega⟩⟩)))
        | (refine ends_ (hr:=?_);rw [sndFlt_f (fun h=>h.2 k hkn j hjn (by unfold ovl;omega))])
    · (repeat' first|(refine go_ ?_;((repeat' first|exact True.intro|refine Two.mk ?_ ?_);all_goals intros))|fail "")
      all_goals (refine ⟨k+1,?_,?_,?_⟩;rotate_left 2;(exact lessA_);(exact Z69_);(focus (exact ⟨hkn,allTo_succ.2 ⟨hd,fun i hi=>he i (by omega)⟩⟩)))
  · rw [sndFlt_t ⟨⟨⟨hh,ha⟩,hb⟩,fun i hi=>hd i (by omega)⟩]
    (repeat' first|(refine go_ ?_;((repeat' first|exact True.intro|refine Two.mk ?_ ?_);all_goals intros))|fail "")
    all_goals exact ends_ (hr:=rfl)
end Go.Proofs.YtendheafcbickaaGreat


set_option linter.unusedVariables false
set_option linter.unusedSimpArgs false
set_option linter.unusedVariables false
namespace Go.Proofs.YtendheafcbickaaGreat
set_option maxRecDepth 100000
attribute [local irreducible] Run RunL QStep GStep Fn Less PL FnM
def bigB (n:Nat):Nat→List UInt8
  | 0=>[]
  | k+1=>UInt8.ofNat (n / 256 ^ k) :: bigB n k
theorem bigB_length (n:Nat):∀ k,(bigB n k).length=k
  | 0=>rfl
  | k+1=>by simp [bigB,bigB_length n k]
theorem bigB_get (n:Nat):∀ k j,j<k→(bigB n k).getD j default=UInt8.ofNat (n / 256 ^ (k - 1 - j))
  | 0,j,h=>by omega
  | k+1,0,h=>by simp [bigB]
  | k+1,j+1,h=>by
    have:=bigB_get n k j (by omega)
    simp only [bigB,List.getD_cons_succ,this]
    rw [show k+1 - 1 - (j+1)=k - 1 - j by omega]
theorem u8_val (m:Nat):((UInt8.ofNat m).toNat:Int)=IntKind.u8.wrap (m:Int):=by
  rw [IntKind.wrap_u8]
  simp
theorem encB_ofNat (m:Nat):encB (UInt8.ofNat m)=[.lit (.int .u8 (IntKind.u8.wrap (m:Int)))]:=by unfold encB;rw [u8_val]
def fillB (l:List UInt8) (n k:Nat):List (List V):=(l.take k).map encB++List.replicate (n - k) [.lit (.int .u8 0)]
theorem fillB_length {l:List UInt8} {n k:Nat} (hl:l.length=n) (hk:k≤n):(fillB l n k).length=n:=by
  unfold fillB;rw [List.length_append,List.length_map,List.length_take,List.length_replicate];omega
theorem fillB0 (l:List UInt8) (n:Nat):fillB l n 0=List.replicate n [.lit (.int .u8 0)]:=by unfold fillB;simp
theorem fillB_all {l:List UInt8} {n:Nat} (hl:l.length=n):fillB l n n=l.map encB:=by
  unfold fillB;rw [Nat.sub_self,List.take_of_length_le (by omega)];simp
theorem fillB_set {l:List UInt8} {n k:Nat} {v:Int} (hl:l.length=n) (hk:k<n) (hv:[.lit (.int .u8 v)]=encB (l.getD k default)) :
    (fillB l n k).set k [.lit (.int .u8 v)]=fillB l n (k+1):=by
  have h1:n - k=(n - (k+1))+1:=by omega
  unfold fillB
  rw [hv,take_snoc (by omega),List.map_append,h1,List.replicate_succ,List.set_append_right (h:=by rw [List.length_map,List.length_take];omega),List.append_assoc]
  congr 1
  rw [List.length_map,List.length_take,Nat.min_eq_left (show k≤l.length by omega),Nat.sub_self]
  simp
theorem fillB_elem {l:List UInt8} {n k:Nat} (hl:l.length=n) (hk:k<n):(eAt (fillB l n k) k).length=1:=by
  unfold fillB eAt
  rw [List.getD_eq_getElem?_getD,List.getElem?_append_right (by rw [List.length_map,List.length_take];omega),List.length_map,List.length_take,Nat.min_eq_left (by omega),Nat.sub_self,List.getElem?_replicate,if_pos (by omega)]
  rfl
theorem setAt1 {v:V} {c:List V} (h:c.length=1):setAt 0 [v] c=[v]:=by
  match c,h with
  | [x],_=>rfl
theorem fdiv_two_pow (n k:Nat):(n:Int).fdiv (2 ^ k)=((n / 2 ^ k:Nat):Int):=by
  rw [Int.fdiv_eq_ediv_of_nonneg _ (by exact_mod_cast Nat.zero_le _)]
  push_cast
  rfl
theorem u8_big (n k:Nat):some [[V.lit (.int .u8 (IntKind.u8.wrap ((n / 256 ^ k:Nat):Int)))]]=some ([UInt8.ofNat (n / 256 ^ k)].map encB):=by
  rw [List.map_cons,List.map_nil,encB_ofNat]
theorem shr8 (n k:Nat):((n / 256 ^ k:Nat):Int).fdiv (2 ^ min (8:Int).toNat IntKind.u64.bits)=((n / 256 ^ (k+1):Nat):Int):=by
  rw [show min (8:Int).toNat IntKind.u64.bits=8 from rfl,fdiv_two_pow,Nat.div_div_eq_div_mul,show (256:Nat) ^ (k+1)=256 ^ k * 2 ^ 8 from by rw [Nat.pow_succ]]
def numV (l:List UInt8):Int:=l.foldl (fun a c=>IntKind.u64.wrap (IntKind.u64.wrap (a * 256)+c.toNat)) 0
def numB (l:List UInt8):Nat:=l.foldl (fun a c=>a * 256+c.toNat) 0
theorem numB_snoc (l:List UInt8) (c:UInt8):numB (l++[c])=numB l * 256+c.toNat:=by unfold numB;rw [List.foldl_append];rfl
theorem numV_snoc (l:List UInt8) (c:UInt8):numV (l++[c])=IntKind.u64.wrap (IntKind.u64.wrap (numV l * 256)+c.toNat):=by unfold numV;rw [List.foldl_append];rfl
theorem snoc_of {l:List UInt8} (h:l≠[]):∃ m c,l=m++[c]:=⟨l.dropLast,l.getLast h,(List.dropLast_concat_getLast h).symm⟩
theorem numB_lt:∀ (k:Nat) (l:List UInt8),l.length=k→numB l<256 ^ k
  | 0,l,h=>by
    have:l=[]:=List.length_eq_zero_iff.1 h
    subst this;decide
  | k+1,l,h=>by
    have hne:l≠[]:=fun e=>by rw [e] at h;cases h
    obtain ⟨m,c,rfl⟩:∃ m c,l=m++[c]:=snoc_of hne
    have h1:=numB_lt k m (by simpa using h)
    rw [numB_snoc,Nat.pow_succ]
    have:=c.toNat_lt
    omega
theorem numV_num:∀ (k:Nat) (l:List UInt8),l.length=k→k≤8→numV l=(numB l:Int)
  | 0,l,h,_=>by
    have:l=[]:=List.length_eq_zero_iff.1 h
    subst this;rfl
  | k+1,l,h,hk=>by
    have hne:l≠[]:=fun e=>by rw [e] at h;cases h
    obtain ⟨m,c,rfl⟩:∃ m c,l=m++[c]:=snoc_of hne
    have hm:m.length=k:=by simpa using h
    have h1:=numB_lt k m hm
    have h2:=numV_num k m hm (by omega)
    have h3:256 ^ k≤256 ^ 7:=Nat.pow_le_pow_right (by omega) (by omega)
    have h4:(256:Nat) ^ 7=72057594037927936:=by decide
    have:=c.toNat_lt
    rw [numV_snoc,numB_snoc,h2,IntKind.wrap_u64,IntKind.wrap_u64]
    omega
end Go.Proofs.YtendheafcbickaaGreat
