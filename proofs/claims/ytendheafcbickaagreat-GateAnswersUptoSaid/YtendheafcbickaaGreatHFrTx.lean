
import Derived.Test.YtendheafcbickaaGreatHZip
import Derived.Test.YtendheafcbickaaGreatHGo
import Derived.Test.YtendheafcbickaaGreatHFrEn
import Derived.Test.YtendheafcbickaaGreatHFrF
set_option linter.unusedVariables false
set_option linter.unusedSimpArgs false
set_option linter.unusedVariables false
namespace Go.Proofs.YtendheafcbickaaGreat
set_option maxRecDepth 100000
attribute [local irreducible] Run RunL QStep GStep Fn Less PL FnM
def letB (f:DFrame) (c:UInt8):List UInt8:=
  if (c.toNat:Int)=105 then varB f.Id.toNat else if (c.toNat:Int)=111 then varB f.Off.toNat else if (c.toNat:Int)=99 then varB f.Code.toNat
  else if (c.toNat:Int)=119 then bigB f.Code.toNat 8 else if (c.toNat:Int)=100 then varB f.Data.length++f.Data else []
def textL (f:DFrame) (s:List UInt8):List UInt8:=s.flatMap (letB f)
theorem textL_snoc (f:DFrame) (s:List UInt8) (c:UInt8):textL f (s++[c])=textL f s++letB f c:=by unfold textL;rw [List.flatMap_append];simp
theorem letB_len {f:DFrame} (hd:f.Data.length≤120) (c:UInt8):(letB f c).length≤128:=by
  have h1:=varB8 f.Id.toNat
  have h2:=varB8 f.Off.toNat
  have h3:=varB8 f.Code.toNat
  have h4:=bigB_length f.Code.toNat 8
  have h5:=varB8 f.Data.length
  unfold letB
  repeat' split
  all_goals first
    | omega
    | (rw [List.length_append];omega)
    | simp
theorem textL_len {f:DFrame} (hd:f.Data.length≤120):∀ s:List UInt8,(textL f s).length≤128 * s.length
  | []=>by simp [textL]
  | c :: s=>by
    have h1:=letB_len hd c
    have h2:=textL_len hd s
    unfold textL at *
    rw [List.flatMap_cons,List.length_append,List.length_cons]
    omega
theorem textL_of {f:DFrame} (h:kOk f.Kind=true):textL f (hasB f.Kind)=optB (hasI (hasB f.Kind) 105) (varB f.Id.toNat)++optB (hasI (hasB f.Kind) 111) (varB f.Off.toNat)++codeB (hasI (hasB f.Kind) 119) (hasI (hasB f.Kind) 99) f.Code++optB (hasI (hasB f.Kind) 100) (varB f.Data.length++f.Data):=by
  have e:textL f []=[]:=rfl
  have ec:∀ c s,textL f (c :: s)=letB f c++textL f s:=fun c s=>by unfold textL;rw [List.flatMap_cons]
  have l1:letB f 105=varB f.Id.toNat:=rfl
  have l2:letB f 111=varB f.Off.toNat:=rfl
  have l3:letB f 99=varB f.Code.toNat:=rfl
  have l4:letB f 119=bigB f.Code.toNat 8:=rfl
  have l5:letB f 100=varB f.Data.length++f.Data:=rfl
  have l6:letB f 114=[]:=rfl
  have l7:letB f 102=[]:=rfl
  generalize f.Kind=K at *
  rcases kind_cases K with rfl|rfl|rfl|rfl|rfl|rfl|rfl|rfl|rfl|rfl|rfl|rfl|rfl|rfl|rfl|hk
  iterate 15 (simp only [show hasB 0=[] from rfl,show hasB 1=[] from rfl,show hasB 2=[114] from rfl,show hasB 4=[105,111,99] from rfl,show hasB 5=[105,99] from rfl,show hasB 6=[111,100] from rfl,show hasB 7=[100] from rfl,show hasB 8=[105,111,100,102] from rfl,show hasB 16=[111] from rfl,show hasB 17=[105,111] from rfl,show hasB 18=[111] from rfl,show hasB 26=[119] from rfl,show hasB 27=[119] from rfl,show hasB 28=[99] from rfl,show hasB 30=[] from rfl,e,ec,l1,l2,l3,l4,l5,l6,l7];simp [optB,codeB,hasI])
  rw [(kOk_other hk).1] at h;cases h
theorem varT_fn (n:Int) (h:0≤n∧n≤4611686018427387903):Fn Tryz.prog 272 [.lit (.int .i64 n)] (.lit (.string (strB (varB n.toNat)))):=by
  have:=varText_fn n.toNat (by omega)
  rw [Int.toNat_of_nonneg h.1] at this
  exact this
set_option maxHeartbeats 4000000 in
theorem frameText_fn (f:DFrame) (h0:frFlt f=0):Fn Tryz.prog 221 [.agg (encFrame f)] (.lit (.string (strB (frB f)))):=by
  obtain ⟨k1,k2,k3,k4,k5,k6,k7⟩:=fr_ok h0
  have k8:=kOk_range k1
  have h2:=has_fn f.Kind
  rw [k1] at h2
  have hkb:=kindB_len f
  have hrl:=rgB_len f.Ranges
  have hsl:=hasB_len f.Kind
  have hfr:frB f=kindB f++rgB f.Ranges f.Ranges.length++textL f (hasB f.Kind):=by
    rw [textL_of k1];unfold frB;simp only [List.append_assoc]
  rw [hfr]
  clear hfr
  generalize hasB f.Kind=s at *
  have e:encFrame f=[.lit (.int .i64 f.Kind),.lit (.int .i64 f.Id),.lit (.int .i64 f.Off),.lit (.bool f.Fin),.lit (.int .i64 f.Code),.ro (f.Ranges.map encRange),.ro (f.Data.map encB)]:=rfl
  rw [e]
  clear e h0 k1
  have p0:=varT_fn f.Kind (by omega)
  refine fn_of_run (by kernel_rfl) Tryz.func221 rfl (by kernel_rfl) ?_
  (repeat' first|(refine s_call (h2) (h:=?_))|(refine p_call (h2) (h:=?_))|(refine s_call (p0) (h:=?_))|(refine p_call (p0) (h:=?_))|(refine goU_ 3 ?_;((repeat' first|exact True.intro|refine Two.mk ?_ ?_);all_goals intros))|fail "")
  refine r_cut (fun _:Unit=>⟨[(1,.ptr 0 0 0 0),(3,.lit (.string (strB s))),(5,.lit (.string (strB (kindB f))))],[(0,some (.box 111 [.lit (.int .i64 f.Kind),.lit (.int .i64 f.Id),.lit (.int .i64 f.Off),.lit (.bool f.Fin),.lit (.int .i64 f.Code),.ro (f.Ranges.map encRange),.ro (f.Data.map encB)]))],1,Tryz.f221.ntmps⟩) (fun _=>True) ?_ ?_
  · unfold kindB
    clear hkb h2 p0
    generalize f.Fin=fin at *
    by_cases h8:f.Kind=8
    · rw [if_pos h8]
      cases fin
      all_goals (repeat' first|(refine go_ ?_;((repeat' first|exact True.intro|refine Two.mk ?_ ?_);all_goals intros))|fail "")
      all_goals first
        | (refine ⟨(),?_,?_⟩;rotate_left 1;(exact lessA_);(exact Z68_))
        | skip
    · rw [if_neg h8]
      (repeat' first|(refine go_ ?_;((repeat' first|exact True.intro|refine Two.mk ?_ ?_);all_goals intros))|fail "")
      all_goals first
        | (refine ⟨(),?_,?_⟩;rotate_left 1;(exact lessA_);(exact Z68_))
        | skip
  intro _ _
  clear h2 p0
  generalize kindB f=q at *
  (repeat' first|(refine go_ ?_;((repeat' first|exact True.intro|refine Two.mk ?_ ?_);all_goals intros))|fail "")
  refine r_for (fun k:Nat=>⟨[(1,.ptr 0 0 0 0),(3,.lit (.string (strB s))),(5,.lit (.string (strB (q++rgB f.Ranges k)))),(24,.ro (f.Ranges.map encRange)),(25,.lit (.int .i64 f.Ranges.length)),(26,.lit (.int .i64 k))],[(0,some (.box 111 [.lit (.int .i64 f.Kind),.lit (.int .i64 f.Id),.lit (.int .i64 f.Off),.lit (.bool f.Fin),.lit (.int .i64 f.Code),.ro (f.Ranges.map encRange),.ro (f.Data.map encB)]))],1,Tryz.f221.ntmps⟩)
    (fun k=>k≤f.Ranges.length) (fun k=>f.Ranges.length - k) 0 (Nat.zero_le _) (by rw [show rgB f.Ranges 0=[] from rfl,List.append_nil];(exact lessA_)) ?_
  intro k hk
  by_cases hkn:k<f.Ranges.length
  · have hg:=k7 k hkn
    have hr:=hrl k
    have hrs:rgB f.Ranges (k+1)=rgB f.Ranges k++pieceB f.Ranges k:=rfl
    have hgood:=hg.1
    unfold rGood at hgood
    by_cases hk0:k=0
    · subst hk0
      have p1:=varT_fn (f.Ranges.getD 0 default).Hi (by omega)
      have p2:=varT_fn ((f.Ranges.length:Int) - 1) (by omega)
      have p3:=varT_fn ((f.Ranges.getD 0 default).Hi - (f.Ranges.getD 0 default).Lo) (by omega)
      have v1:=varB8 (f.Ranges.getD 0 default).Hi.toNat
      have v2:=varB8 ((f.Ranges.length:Int) - 1).toNat
      have v3:=varB8 ((f.Ranges.getD 0 default).Hi - (f.Ranges.getD 0 default).Lo).toNat
      have e:q++rgB f.Ranges 0++(varB (f.Ranges.getD 0 default).Hi.toNat++varB ((f.Ranges.length:Int) - 1).toNat)++varB ((f.Ranges.getD 0 default).Hi - (f.Ranges.getD 0 default).Lo).toNat=q++rgB f.Ranges (0+1):=by
        rw [hrs,show pieceB f.Ranges 0=_ from if_pos rfl];simp only [List.append_assoc]
      clear hrs k7 hrl
      (repeat' first|(refine s_call (p1) (h:=?_))|(refine p_call (p1) (h:=?_))|(refine s_call (p2) (h:=?_))|(refine p_call (p2) (h:=?_))|(refine s_call (p3) (h:=?_))|(refine p_call (p3) (h:=?_))|(refine s_sadd (r:=q++rgB f.Ranges (0+1)) ?_ ?_ (h:=?_);(focus (exact e));(exact Z11_))|(refine p_sadd (r:=q++rgB f.Ranges (0+1)) ?_ ?_ (h:=?_);(focus (exact e));(exact Z11_))|(refine goI_ ?_;((repeat' first|exact True.intro|refine Two.mk ?_ ?_);all_goals intros))|refine s_i (h:=?_)|refine s_i (hq:=q_index_ro rfl rfl rfl (by first|exact lit0|exact lit1|exact lit2|exact lit3|rfl) (by simp only [List.length_cons,List.length_nil];omega) rfl rfl rfl rfl) (h:=?_)|refine p_i (h:=?_)|refine p_ih (h:=?_)|refine s_lit (h:=?_)|refine p_lit (h:=?_)|refine p_lit0 (h:=?_)|refine s_lit0 (h:=?_)|refine s_ixa (h:=?_)|refine s_insert (h:=?_)|(refine s_sadd rfl ?_ (h:=?_);(exact Z11_))|(refine p_sadd rfl ?_ (h:=?_);(exact Z11_))|fail "")
      all_goals first
        | (refine ⟨0+1,?_,?_,?_⟩;rotate_left 2;(exact lessA_);(exact Z69_);(exact Z69_))
        | skip
    · have ek:(k:Int) - 1=((k - 1:Nat):Int):=by omega
      have hg0:=(k7 (k - 1) (by omega)).1
      unfold rGood at hg0
      have hg2:(f.Ranges.getD k default).Hi+1<(f.Ranges.getD (k - 1) default).Lo:=by rcases hg.2 with h|h;omega;exact h
      have p2:=varT_fn ((f.Ranges.getD (k - 1) default).Lo - (f.Ranges.getD k default).Hi - 2) (by omega)
      have p3:=varT_fn ((f.Ranges.getD k default).Hi - (f.Ranges.getD k default).Lo) (by omega)
      have v2:=varB8 ((f.Ranges.getD (k - 1) default).Lo - (f.Ranges.getD k default).Hi - 2).toNat
      have v3:=varB8 ((f.Ranges.getD k default).Hi - (f.Ranges.getD k default).Lo).toNat
      have e:q++rgB f.Ranges k++varB ((f.Ranges.getD (k - 1) default).Lo - (f.Ranges.getD k default).Hi - 2).toNat++varB ((f.Ranges.getD k default).Hi - (f.Ranges.getD k default).Lo).toNat=q++rgB f.Ranges (k+1):=by
        rw [hrs,show pieceB f.Ranges k=_ from if_neg hk0];simp only [List.append_assoc]
      clear hrs k7 hrl hg
      (repeat' first|(refine s_call (p2) (h:=?_))|(refine p_call (p2) (h:=?_))|(refine s_call (p3) (h:=?_))|(refine p_call (p3) (h:=?_))|(refine s_sadd (r:=q++rgB f.Ranges (k+1)) ?_ ?_ (h:=?_);(focus (exact e));(exact Z11_))|(refine p_sadd (r:=q++rgB f.Ranges (k+1)) ?_ ?_ (h:=?_);(focus (exact e));(exact Z11_))|(refine goI_ ?_;((repeat' first|exact True.intro|refine Two.mk ?_ ?_);all_goals intros))|refine s_i (h:=?_)|refine s_i (hq:=q_index_ro rfl rfl rfl (by first|exact lit0|exact lit1|exact lit2|exact lit3|rfl) (by simp only [List.length_cons,List.length_nil];omega) rfl rfl rfl rfl) (h:=?_)|refine p_i (h:=?_)|refine p_ih (h:=?_)|refine s_lit (h:=?_)|refine p_lit (h:=?_)|refine p_lit0 (h:=?_)|refine s_lit0 (h:=?_)|refine s_ixa (h:=?_)|refine s_insert (h:=?_)|(refine s_sadd rfl ?_ (h:=?_);(exact Z11_))|(refine p_sadd rfl ?_ (h:=?_);(exact Z11_))|fail "")
      all_goals first
        | (refine ⟨k+1,?_,?_,?_⟩;rotate_left 2;(exact lessA_);(exact Z69_);(exact Z69_))
        | skip
  have:k=f.Ranges.length:=by omega
  subst this
  have hq1:(q++rgB f.Ranges f.Ranges.length).length≤500:=by rw [List.length_append];have:=hrl f.Ranges.length;omega
  generalize q++rgB f.Ranges f.Ranges.length=q1 at *
  clear hkb hrl hk hkn k7 k3
  (repeat' first|(refine go_ ?_;((repeat' first|exact True.intro|refine Two.mk ?_ ?_);all_goals intros))|fail "")
  refine r_for (fun j:Nat=>⟨[(1,.ptr 0 0 0 0),(3,.lit (.string (strB s))),(5,.lit (.string (strB (q1++textL f (s.take j))))),(8,.lit (.int .i64 j))],[(0,some (.box 111 [.lit (.int .i64 f.Kind),.lit (.int .i64 f.Id),.lit (.int .i64 f.Off),.lit (.bool f.Fin),.lit (.int .i64 f.Code),.ro (f.Ranges.map encRange),.ro (f.Data.map encB)]))],1,Tryz.f221.ntmps⟩)
    (fun j=>j≤s.length) (fun j=>s.length - j) 0 (Nat.zero_le _) (by rw [show textL f (s.take 0)=[] from rfl,List.append_nil];(exact lessA_)) ?_
  intro j hj
  by_cases hjs:j<s.length
  · have e:textL f (s.take (j+1))=textL f (s.take j)++letB f (s.getD j default):=by rw [take_snoc hjs,textL_snoc]
    have htl:=textL_len k2 (s.take j)
    rw [List.length_take] at htl
    unfold letB at e
    by_cases c1:((s.getD j default).toNat:Int)=105
    · rw [if_pos c1] at e
      have p:=varT_fn f.Id k4
      have v:=varB8 f.Id.toNat
      (repeat' first|(refine s_call (p) (h:=?_))|(refine p_call (p) (h:=?_))|(refine s_sadd (r:=q1++textL f (s.take (j+1))) ?_ ?_ (h:=?_);(exact Z64_);(exact Z11_))|(refine p_sadd (r:=q1++textL f (s.take (j+1))) ?_ ?_ (h:=?_);(exact Z64_);(exact Z11_))|(refine goI_ ?_;((repeat' first|exact True.intro|refine Two.mk ?_ ?_);all_goals intros))|refine s_i (h:=?_)|refine s_i (hq:=q_index_ro rfl rfl rfl (by first|exact lit0|exact lit1|exact lit2|exact lit3|rfl) (by simp only [List.length_cons,List.length_nil];omega) rfl rfl rfl rfl) (h:=?_)|refine p_i (h:=?_)|refine p_ih (h:=?_)|refine s_lit (h:=?_)|refine p_lit (h:=?_)|refine p_lit0 (h:=?_)|refine s_lit0 (h:=?_)|refine s_ixa (h:=?_)|refine s_insert (h:=?_)|(refine s_sadd rfl ?_ (h:=?_);(exact Z11_))|(refine p_sadd rfl ?_ (h:=?_);(exact Z11_))|fail "")
      all_goals first
        | (refine ⟨j+1,?_,?_,?_⟩;rotate_left 2;(exact lessA_);(exact Z69_);(exact Z69_))
        | skip
    rw [if_neg c1] at e
    by_cases c2:((s.getD j default).toNat:Int)=111
    · rw [if_pos c2] at e
      have p:=varT_fn f.Off k5
      have v:=varB8 f.Off.toNat
      (repeat' first|(refine s_call (p) (h:=?_))|(refine p_call (p) (h:=?_))|(refine s_sadd (r:=q1++textL f (s.take (j+1))) ?_ ?_ (h:=?_);(exact Z64_);(exact Z11_))|(refine p_sadd (r:=q1++textL f (s.take (j+1))) ?_ ?_ (h:=?_);(exact Z64_);(exact Z11_))|(refine goI_ ?_;((repeat' first|exact True.intro|refine Two.mk ?_ ?_);all_goals intros))|refine s_i (h:=?_)|refine s_i (hq:=q_index_ro rfl rfl rfl (by first|exact lit0|exact lit1|exact lit2|exact lit3|rfl) (by simp only [List.length_cons,List.length_nil];omega) rfl rfl rfl rfl) (h:=?_)|refine p_i (h:=?_)|refine p_ih (h:=?_)|refine s_lit (h:=?_)|refine p_lit (h:=?_)|refine p_lit0 (h:=?_)|refine s_lit0 (h:=?_)|refine s_ixa (h:=?_)|refine s_insert (h:=?_)|(refine s_sadd rfl ?_ (h:=?_);(exact Z11_))|(refine p_sadd rfl ?_ (h:=?_);(exact Z11_))|fail "")
      all_goals first
        | (refine ⟨j+1,?_,?_,?_⟩;rotate_left 2;(exact lessA_);(exact Z69_);(exact Z69_))
        | skip
    rw [if_neg c2] at e
    by_cases c3:((s.getD j default).toNat:Int)=99
    · rw [if_pos c3] at e
      have p:=varT_fn f.Code k6
      have v:=varB8 f.Code.toNat
      (repeat' first|(refine s_call (p) (h:=?_))|(refine p_call (p) (h:=?_))|(refine s_sadd (r:=q1++textL f (s.take (j+1))) ?_ ?_ (h:=?_);(exact Z64_);(exact Z11_))|(refine p_sadd (r:=q1++textL f (s.take (j+1))) ?_ ?_ (h:=?_);(exact Z64_);(exact Z11_))|(refine goI_ ?_;((repeat' first|exact True.intro|refine Two.mk ?_ ?_);all_goals intros))|refine s_i (h:=?_)|refine s_i (hq:=q_index_ro rfl rfl rfl (by first|exact lit0|exact lit1|exact lit2|exact lit3|rfl) (by simp only [List.length_cons,List.length_nil];omega) rfl rfl rfl rfl) (h:=?_)|refine p_i (h:=?_)|refine p_ih (h:=?_)|refine s_lit (h:=?_)|refine p_lit (h:=?_)|refine p_lit0 (h:=?_)|refine s_lit0 (h:=?_)|refine s_ixa (h:=?_)|refine s_insert (h:=?_)|(refine s_sadd rfl ?_ (h:=?_);(exact Z11_))|(refine p_sadd rfl ?_ (h:=?_);(exact Z11_))|fail "")
      all_goals first
        | (refine ⟨j+1,?_,?_,?_⟩;rotate_left 2;(exact lessA_);(exact Z69_);(exact Z69_))
        | skip
    rw [if_neg c3] at e
    by_cases c4:((s.getD j default).toNat:Int)=119
    · rw [if_pos c4] at e
      have p:=big8_fn f.Code.toNat
      rw [Int.toNat_of_nonneg k6.1] at p
      have v:=bigB_length f.Code.toNat 8
      (repeat' first|(refine s_call (p) (h:=?_))|(refine p_call (p) (h:=?_))|(refine s_sadd (r:=q1++textL f (s.take (j+1))) ?_ ?_ (h:=?_);(exact Z64_);(exact Z11_))|(refine p_sadd (r:=q1++textL f (s.take (j+1))) ?_ ?_ (h:=?_);(exact Z64_);(exact Z11_))|(refine goI_ ?_;((repeat' first|exact True.intro|refine Two.mk ?_ ?_);all_goals intros))|refine s_i (h:=?_)|refine s_i (hq:=q_index_ro rfl rfl rfl (by first|exact lit0|exact lit1|exact lit2|exact lit3|rfl) (by simp only [List.length_cons,List.length_nil];omega) rfl rfl rfl rfl) (h:=?_)|refine p_i (h:=?_)|refine p_ih (h:=?_)|refine s_lit (h:=?_)|refine p_lit (h:=?_)|refine p_lit0 (h:=?_)|refine s_lit0 (h:=?_)|refine s_ixa (h:=?_)|refine s_insert (h:=?_)|(refine s_sadd rfl ?_ (h:=?_);(exact Z11_))|(refine p_sadd rfl ?_ (h:=?_);(exact Z11_))|fail "")
      all_goals first
        | (refine ⟨j+1,?_,?_,?_⟩;rotate_left 2;(exact lessA_);(exact Z69_);(exact Z69_))
        | skip
    rw [if_neg c4] at e
    by_cases c5:((s.getD j default).toNat:Int)=100
    · rw [if_pos c5] at e
      have p:=varT_fn (f.Data.length:Int) (by omega)
      rw [Int.toNat_natCast] at p
      have v:=varB8 f.Data.length
      (repeat' first|(refine s_call (p) (h:=?_))|(refine p_call (p) (h:=?_))|(refine s_sadd (r:=q1++textL f (s.take (j+1))) ?_ ?_ (h:=?_);(exact Z64_);(exact Z11_))|(refine p_sadd (r:=q1++textL f (s.take (j+1))) ?_ ?_ (h:=?_);(exact Z64_);(exact Z11_))|(refine goI_ ?_;((repeat' first|exact True.intro|refine Two.mk ?_ ?_);all_goals intros))|refine s_i (h:=?_)|refine s_i (hq:=q_index_ro rfl rfl rfl (by first|exact lit0|exact lit1|exact lit2|exact lit3|rfl) (by simp only [List.length_cons,List.length_nil];omega) rfl rfl rfl rfl) (h:=?_)|refine p_i (h:=?_)|refine p_ih (h:=?_)|refine s_lit (h:=?_)|refine p_lit (h:=?_)|refine p_lit0 (h:=?_)|refine s_lit0 (h:=?_)|refine s_ixa (h:=?_)|refine s_insert (h:=?_)|(refine s_sadd rfl ?_ (h:=?_);(exact Z11_))|(refine p_sadd rfl ?_ (h:=?_);(exact Z11_))|fail "")
      all_goals first
        | (refine ⟨j+1,?_,?_,?_⟩;rotate_left 2;(exact lessA_);(exact Z69_);(exact Z69_))
        | skip
    rw [if_neg c5,List.append_nil] at e
    rw [← e]
    (repeat' first|(refine go_ ?_;((repeat' first|exact True.intro|refine Two.mk ?_ ?_);all_goals intros))|fail "")
    all_goals first
      | (refine ⟨j+1,?_,?_,?_⟩;rotate_left 2;(exact lessA_);(exact Z69_);(exact Z69_))
      | skip
  · rw [List.take_of_length_le (by omega)]
    (repeat' first|(refine go_ ?_;((repeat' first|exact True.intro|refine Two.mk ?_ ?_);all_goals intros))|fail "")
    all_goals first
      | exact ends_ (hr:=rfl)
      | skip
theorem frB_len {f:DFrame} (h0:frFlt f=0):(frB f).length≤1000:=by
  obtain ⟨k1,k2,k3,k4,k5,k6,k7⟩:=fr_ok h0
  have h1:=kindB_len f
  have h2:=rgB_len f.Ranges f.Ranges.length
  have h3:=optB_len (b:=hasI (hasB f.Kind) 105) (varB8 f.Id.toNat)
  have h4:=optB_len (b:=hasI (hasB f.Kind) 111) (varB8 f.Off.toNat)
  have h5:=codeB_len (hasI (hasB f.Kind) 119) (hasI (hasB f.Kind) 99) f.Code
  have h7:(varB f.Data.length++f.Data).length≤128:=by rw [List.length_append];have:=varB8 f.Data.length;omega
  have h6:=optB_len (b:=hasI (hasB f.Kind) 100) h7
  unfold frB
  simp only [List.length_append] at *
  omega
end Go.Proofs.YtendheafcbickaaGreat
