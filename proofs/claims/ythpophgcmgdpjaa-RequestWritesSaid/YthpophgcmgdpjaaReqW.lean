/-
  request.Write and the reference's RequestBytes: what each answers. No condition.
-/
import Derived.Test.YthpophgcmgdpjaaGo
import Derived.Test.YthpophgcmgdpjaaEnA
import Derived.Test.YthpophgcmgdpjaaEnB
import Derived.Test.YthpophgcmgdpjaaReqC
import Derived.Test.YthpophgcmgdpjaaReqF
import Derived.Test.YthpophgcmgdpjaaVar2
set_option linter.unusedVariables false
set_option linter.unusedSimpArgs false
set_option linter.unusedVariables false
namespace Go.Proofs.Ythpophgcmgdpjaa
set_option maxRecDepth 100000
attribute [local irreducible] Run RunL QStep GStep Fn Less PL FnM

theorem varW_fn (n : Nat) (h : n ≤ 4611686018427387903) : Fn Try.prog 149 [.lit (.int .i64 n)] (.tup [.ro ((varB n).map encB), .lit (.int .i64 0)]) := varEncode_ok n h
theorem varX_fn (n : Nat) (h : n ≤ 4611686018427387903) : Fn Try.prog 81 [.lit (.int .i64 n)] (.lit (.string (strB (varB n)))) := varText_fn n h
theorem varB_8 (n : Nat) : (varB n).length ≤ 8 := by
  have := varK_cases n
  rw [varB_length]; omega
/-- a frame -/
def frm (kind : UInt8) (b : List UInt8) : List UInt8 := kind :: (varB b.length ++ b)
theorem frm_len (k : UInt8) (b : List UInt8) : (frm k b).length ≤ b.length + 9 := by
  have := varB_8 b.length
  unfold frm
  rw [List.length_cons, List.length_append]; omega
theorem framed_fnm (kind : UInt8) (kn : Int) (hk : kn = (kind.toNat : Int)) (b : List UInt8) (hb : b.length ≤ 1000000) : FnM Try.prog 80 [.lit (.int .i64 kn), .ro (b.map encB)] [] 0 (.own 0) [(0, some (.row 5 1 ((frm kind b).map encB)))] 1 := by
  have h1 := varW_fn b.length (by omega)
  have h8 := varB_8 b.length
  have hlt := kind.toNat_lt
  subst hk
  have e : [V.lit (.int .u8 ((kind.toNat : Nat) : Int))] = encB kind := rfl
  refine fnm_of_run (by kernel_rfl) Try.func80 rfl (by kernel_rfl) (by rfl) ?_
  (repeat' first | (refine s_call (h1) (h := ?_)) | (refine p_call (h1) (h := ?_)) | (refine s_rowR (r := [kind].map encB) (hr := ?_) (h := ?_); (focus (rfl))) | (refine s_app (r := ([kind] ++ varB b.length).map encB) ?_ ?_ ?_ ?_ (h := ?_); (focus (first | with_reducible rfl | with_reducible exact List.nil_append _ | with_reducible exact (List.map_append ..).symm | (rw [take_snoc (by assumption), List.map_append]; rfl) | (rw [List.map_append]; rfl) | (simp; done))); (focus (first | exact len_none | exact len_one rfl | exact len_two rfl rfl | exact len_enc (fun _ => rfl))); (focus ((conv => lhs; rhs; whnf); simp only [List.length_map, List.length_append, List.length_cons, List.length_nil, List.length_take]; omega)); (focus (simp only [List.length_map, List.length_append, List.length_cons, List.length_nil, List.length_take]; omega))) | (refine s_app0R (r := ([kind] ++ varB b.length).map encB) ?_ ?_ ?_ ?_ (h := ?_); (focus (first | with_reducible rfl | with_reducible exact List.nil_append _ | with_reducible exact (List.map_append ..).symm | (rw [take_snoc (by assumption), List.map_append]; rfl) | (rw [List.map_append]; rfl) | (simp; done))); (focus (first | exact len_none | exact len_one rfl | exact len_two rfl rfl | exact len_enc (fun _ => rfl))); (focus ((conv => lhs; rhs; whnf); simp only [List.length_map, List.length_append, List.length_cons, List.length_nil, List.length_take]; omega)); (focus (simp only [List.length_map, List.length_append, List.length_cons, List.length_nil, List.length_take]; omega))) | (refine p_app (r := ([kind] ++ varB b.length).map encB) ?_ ?_ ?_ ?_ (h := ?_); (focus (first | with_reducible rfl | with_reducible exact List.nil_append _ | with_reducible exact (List.map_append ..).symm | (rw [take_snoc (by assumption), List.map_append]; rfl) | (rw [List.map_append]; rfl) | (simp; done))); (focus (first | exact len_none | exact len_one rfl | exact len_two rfl rfl | exact len_enc (fun _ => rfl))); (focus ((conv => lhs; rhs; whnf); simp only [List.length_map, List.length_append, List.length_cons, List.length_nil, List.length_take]; omega)); (focus (simp only [List.length_map, List.length_append, List.length_cons, List.length_nil, List.length_take]; omega))) | (refine p_app0R (r := ([kind] ++ varB b.length).map encB) ?_ ?_ ?_ ?_ (h := ?_); (focus (first | with_reducible rfl | with_reducible exact List.nil_append _ | with_reducible exact (List.map_append ..).symm | (rw [take_snoc (by assumption), List.map_append]; rfl) | (rw [List.map_append]; rfl) | (simp; done))); (focus (first | exact len_none | exact len_one rfl | exact len_two rfl rfl | exact len_enc (fun _ => rfl))); (focus ((conv => lhs; rhs; whnf); simp only [List.length_map, List.length_append, List.length_cons, List.length_nil, List.length_take]; omega)); (focus (simp only [List.length_map, List.length_append, List.length_cons, List.length_nil, List.length_take]; omega))) | (refine s_app (r := (frm kind b).map encB) ?_ ?_ ?_ ?_ (h := ?_); (focus (first | ((rw [← List.map_append]; rfl)) | with_reducible rfl | with_reducible exact List.nil_append _ | with_reducible exact (List.map_append ..).symm | (rw [take_snoc (by assumption), List.map_append]; rfl) | (rw [List.map_append]; rfl) | (simp; done))); (focus (first | exact len_none | exact len_one rfl | exact len_two rfl rfl | exact len_enc (fun _ => rfl))); (focus ((conv => lhs; rhs; whnf); simp only [List.length_map, List.length_append, List.length_cons, List.length_nil, List.length_take]; omega)); (focus (simp only [List.length_map, List.length_append, List.length_cons, List.length_nil, List.length_take]; omega))) | (refine s_app0R (r := (frm kind b).map encB) ?_ ?_ ?_ ?_ (h := ?_); (focus (first | ((rw [← List.map_append]; rfl)) | with_reducible rfl | with_reducible exact List.nil_append _ | with_reducible exact (List.map_append ..).symm | (rw [take_snoc (by assumption), List.map_append]; rfl) | (rw [List.map_append]; rfl) | (simp; done))); (focus (first | exact len_none | exact len_one rfl | exact len_two rfl rfl | exact len_enc (fun _ => rfl))); (focus ((conv => lhs; rhs; whnf); simp only [List.length_map, List.length_append, List.length_cons, List.length_nil, List.length_take]; omega)); (focus (simp only [List.length_map, List.length_append, List.length_cons, List.length_nil, List.length_take]; omega))) | (refine p_app (r := (frm kind b).map encB) ?_ ?_ ?_ ?_ (h := ?_); (focus (first | ((rw [← List.map_append]; rfl)) | with_reducible rfl | with_reducible exact List.nil_append _ | with_reducible exact (List.map_append ..).symm | (rw [take_snoc (by assumption), List.map_append]; rfl) | (rw [List.map_append]; rfl) | (simp; done))); (focus (first | exact len_none | exact len_one rfl | exact len_two rfl rfl | exact len_enc (fun _ => rfl))); (focus ((conv => lhs; rhs; whnf); simp only [List.length_map, List.length_append, List.length_cons, List.length_nil, List.length_take]; omega)); (focus (simp only [List.length_map, List.length_append, List.length_cons, List.length_nil, List.length_take]; omega))) | (refine p_app0R (r := (frm kind b).map encB) ?_ ?_ ?_ ?_ (h := ?_); (focus (first | ((rw [← List.map_append]; rfl)) | with_reducible rfl | with_reducible exact List.nil_append _ | with_reducible exact (List.map_append ..).symm | (rw [take_snoc (by assumption), List.map_append]; rfl) | (rw [List.map_append]; rfl) | (simp; done))); (focus (first | exact len_none | exact len_one rfl | exact len_two rfl rfl | exact len_enc (fun _ => rfl))); (focus ((conv => lhs; rhs; whnf); simp only [List.length_map, List.length_append, List.length_cons, List.length_nil, List.length_take]; omega)); (focus (simp only [List.length_map, List.length_append, List.length_cons, List.length_nil, List.length_take]; omega))) | (refine goI_ ?_; ((repeat' first | exact True.intro | refine Two.mk ?_ ?_); all_goals intros)) | refine s_i (h := ?_) | refine s_i (hq := q_index_ro rfl rfl rfl (by first | exact lit0 | exact lit1 | exact lit2 | exact lit3 | rfl) (by simp only [List.length_cons, List.length_nil]; omega) rfl rfl rfl rfl) (h := ?_) | refine p_i (h := ?_) | refine p_ih (h := ?_) | refine s_lit (h := ?_) | refine p_lit (h := ?_) | refine p_lit0 (h := ?_) | refine s_lit0 (h := ?_) | refine s_ixa (h := ?_) | refine s_insert (h := ?_) | (refine s_sadd rfl ?_ (h := ?_); (focus (first | omega | (simp only [List.length_append, List.length_map, List.length_cons, List.length_nil, List.length_take, List.length_drop]; omega)))) | (refine p_sadd rfl ?_ (h := ?_); (focus (first | omega | (simp only [List.length_append, List.length_map, List.length_cons, List.length_nil, List.length_take, List.length_drop]; omega)))) | fail "")
  all_goals first
    | (exact endmA_)
    | skip
theorem enR_out {t : DTable} {l : List DField} {a : Bool} (h : (enR t l a).2.2.2 = 0) : (enR t l a).2.2.1.length ≤ 2090 := by
  unfold enR at h ⊢
  rcases tabFlt_cases t with ⟨h0, hok⟩ | ⟨h0, hbad⟩
  · rw [if_neg (by omega)] at h ⊢
    by_cases hf0 : fldsFlt l = 0
    · rw [if_neg (by omega)] at h ⊢
      obtain ⟨hl8, hfo⟩ := fldsFlt_ok hf0
      obtain ⟨o1, o2, o3, o4, o5⟩ := enAt_ok (a := a) hok hfo l.length (Nat.le_refl _)
      have hput := o1.1
      have := enOut_len hfo o4 o3.1 (by omega) o2 l.length (Nat.le_refl _)
      dsimp only
      omega
    · rw [if_pos hf0]; exact Nat.zero_le _
  · rw [if_pos (by omega)]; exact Nat.zero_le _
/-- P16.2 -/
noncomputable def reqW (t : DTable) (r : DRequest) (ahead : Bool) : DTable × List UInt8 × List UInt8 × Int :=
  if reqFlt r.Fields ≠ 0 then (tabZero, [], [], reqFlt r.Fields) else if 200 < r.Body.length then (tabZero, [], [], 1)
  else if (enR t r.Fields ahead).2.2.2 ≠ 0 then (tabZero, [], [], (enR t r.Fields ahead).2.2.2)
  else ((enR t r.Fields ahead).1, (enR t r.Fields ahead).2.1, frm 1 (enR t r.Fields ahead).2.2.1 ++ (if r.Body = [] then [] else frm 0 r.Body), 0)
def encRw (r : DTable × List UInt8 × List UInt8 × Int) : V := .tup [.agg (encTable r.1), .ro (r.2.1.map encB), .ro (r.2.2.1.map encB), .lit (.int .i64 r.2.2.2)]
def encRb (r : DTable × List UInt8 × List UInt8 × Int) : V := .tup [.agg (encTable r.1), .lit (.string (strB r.2.1)), .lit (.string (strB r.2.2.1)), .lit (.int .i64 r.2.2.2)]
set_option maxHeartbeats 2000000 in
theorem reqWrite_fn (t : DTable) (r : DRequest) (ahead : Bool) (hw : wfTable t) (hr : wfRequest r) : Fn Try.prog 31 [.agg (encTable t), .agg (encRequest r), .lit (.bool ahead)] (encRw (reqW t r ahead)) := by
  obtain ⟨hr1, hr2, hr3⟩ := hr
  have h1 := reqCheck_fn r.Fields hr2 (by omega)
  have h2 := encodeF_fn t r.Fields ahead hw hr2 (by omega)
  have hol := enR_out (t := t) (l := r.Fields) (a := ahead)
  unfold reqW encRw
  by_cases c1 : reqFlt r.Fields = 0
  · rw [c1] at h1
    rw [if_neg (by omega)]
    by_cases c2 : 200 < r.Body.length
    · rw [if_pos c2]
      clear h2 hol
      refine fn_of_run (by kernel_rfl) Try.func31 rfl (by kernel_rfl) ?_
      (repeat' first | (refine s_call (h1) (h := ?_)) | (refine p_call (h1) (h := ?_)) | (refine go_ ?_; ((repeat' first | exact True.intro | refine Two.mk ?_ ?_); all_goals intros)) | fail "")
      all_goals first
        | (exact endwA_)
        | skip
    · rw [if_neg c2]
      generalize enR t r.Fields ahead = x at *
      obtain ⟨⟨room, put, rows⟩, tell, sec, e⟩ := x
      unfold encEn at h2
      dsimp only [encTable] at *
      by_cases c3 : e = 0
      · have hol := hol c3
        subst c3
        rw [if_neg (by omega)]
        have h3 := framed_fnm 1 1 rfl sec (by omega)
        have h4 := framed_fnm 0 0 rfl r.Body (by omega)
        have l1 := frm_len 1 sec
        have l2 := frm_len 0 r.Body
        generalize hF1 : frm 1 sec = f1 at *
        generalize hF0 : frm 0 r.Body = f0 at *
        by_cases c4 : r.Body.length = 0
        · rw [if_pos (List.eq_nil_of_length_eq_zero c4), List.append_nil]
          refine fn_of_run (by kernel_rfl) Try.func31 rfl (by kernel_rfl) ?_
          (repeat' first | (refine s_call (h1) (h := ?_)) | (refine p_call (h1) (h := ?_)) | (refine s_call (h2) (h := ?_)) | (refine p_call (h2) (h := ?_)) | (refine s_callM [] (h3) (h := ?_)) | (refine s_callM0 [] (h3) (h := ?_)) | (refine p_callN (h3) (h := ?_)) | (refine s_callM [] (h4) (h := ?_)) | (refine s_callM0 [] (h4) (h := ?_)) | (refine p_callN (h4) (h := ?_)) | (refine go_ ?_; ((repeat' first | exact True.intro | refine Two.mk ?_ ?_); all_goals intros)) | fail "")
          all_goals first
            | (exact endwA_)
            | skip
        · rw [if_neg (fun h => c4 (by rw [h]; rfl))]
          refine fn_of_run (by kernel_rfl) Try.func31 rfl (by kernel_rfl) ?_
          (repeat' first | (refine s_call (h1) (h := ?_)) | (refine p_call (h1) (h := ?_)) | (refine s_call (h2) (h := ?_)) | (refine p_call (h2) (h := ?_)) | (refine s_callM [] (h3) (h := ?_)) | (refine s_callM0 [] (h3) (h := ?_)) | (refine p_callN (h3) (h := ?_)) | (refine s_callM [] (h4) (h := ?_)) | (refine s_callM0 [] (h4) (h := ?_)) | (refine p_callN (h4) (h := ?_)) | (refine s_app (r := (f1 ++ f0).map encB) ?_ ?_ ?_ ?_ (h := ?_); (focus (first | with_reducible rfl | with_reducible exact List.nil_append _ | with_reducible exact (List.map_append ..).symm | (rw [take_snoc (by assumption), List.map_append]; rfl) | (rw [List.map_append]; rfl) | (simp; done))); (focus (first | exact len_none | exact len_one rfl | exact len_two rfl rfl | exact len_enc (fun _ => rfl))); (focus ((conv => lhs; rhs; whnf); simp only [List.length_map, List.length_append, List.length_cons, List.length_nil, List.length_take]; omega)); (focus (simp only [List.length_map, List.length_append, List.length_cons, List.length_nil, List.length_take]; omega))) | (refine s_app0R (r := (f1 ++ f0).map encB) ?_ ?_ ?_ ?_ (h := ?_); (focus (first | with_reducible rfl | with_reducible exact List.nil_append _ | with_reducible exact (List.map_append ..).symm | (rw [take_snoc (by assumption), List.map_append]; rfl) | (rw [List.map_append]; rfl) | (simp; done))); (focus (first | exact len_none | exact len_one rfl | exact len_two rfl rfl | exact len_enc (fun _ => rfl))); (focus ((conv => lhs; rhs; whnf); simp only [List.length_map, List.length_append, List.length_cons, List.length_nil, List.length_take]; omega)); (focus (simp only [List.length_map, List.length_append, List.length_cons, List.length_nil, List.length_take]; omega))) | (refine p_app (r := (f1 ++ f0).map encB) ?_ ?_ ?_ ?_ (h := ?_); (focus (first | with_reducible rfl | with_reducible exact List.nil_append _ | with_reducible exact (List.map_append ..).symm | (rw [take_snoc (by assumption), List.map_append]; rfl) | (rw [List.map_append]; rfl) | (simp; done))); (focus (first | exact len_none | exact len_one rfl | exact len_two rfl rfl | exact len_enc (fun _ => rfl))); (focus ((conv => lhs; rhs; whnf); simp only [List.length_map, List.length_append, List.length_cons, List.length_nil, List.length_take]; omega)); (focus (simp only [List.length_map, List.length_append, List.length_cons, List.length_nil, List.length_take]; omega))) | (refine p_app0R (r := (f1 ++ f0).map encB) ?_ ?_ ?_ ?_ (h := ?_); (focus (first | with_reducible rfl | with_reducible exact List.nil_append _ | with_reducible exact (List.map_append ..).symm | (rw [take_snoc (by assumption), List.map_append]; rfl) | (rw [List.map_append]; rfl) | (simp; done))); (focus (first | exact len_none | exact len_one rfl | exact len_two rfl rfl | exact len_enc (fun _ => rfl))); (focus ((conv => lhs; rhs; whnf); simp only [List.length_map, List.length_append, List.length_cons, List.length_nil, List.length_take]; omega)); (focus (simp only [List.length_map, List.length_append, List.length_cons, List.length_nil, List.length_take]; omega))) | (refine go_ ?_; ((repeat' first | exact True.intro | refine Two.mk ?_ ?_); all_goals intros)) | fail "")
          all_goals first
            | (exact endwA_)
            | skip
      · rw [if_pos c3]
        refine fn_of_run (by kernel_rfl) Try.func31 rfl (by kernel_rfl) ?_
        (repeat' first | (refine s_call (h1) (h := ?_)) | (refine p_call (h1) (h := ?_)) | (refine s_call (h2) (h := ?_)) | (refine p_call (h2) (h := ?_)) | (refine go_ ?_; ((repeat' first | exact True.intro | refine Two.mk ?_ ?_); all_goals intros)) | fail "")
        all_goals first
          | (exact endwA_)
          | skip
  · rw [if_pos c1]
    generalize reqFlt r.Fields = e at *
    refine fn_of_run (by kernel_rfl) Try.func31 rfl (by kernel_rfl) ?_
    (repeat' first | (refine s_call (h1) (h := ?_)) | (refine p_call (h1) (h := ?_)) | (refine go_ ?_; ((repeat' first | exact True.intro | refine Two.mk ?_ ?_); all_goals intros)) | fail "")
    all_goals first
      | (exact endwA_)
      | skip
set_option maxHeartbeats 2000000 in
theorem reqBytes_fn (t : DTable) (r : DRequest) (ahead : Bool) (hw : wfTable t) (hr : wfRequest r) : Fn Try.prog 33 [.agg (encTable t), .agg (encRequest r), .lit (.bool ahead)] (encRb (reqW t r ahead)) := by
  obtain ⟨hr1, hr2, hr3⟩ := hr
  have h1 := reqFault_fn r.Fields hr2 (by omega)
  have h2 := fieldsBytes_fn t r.Fields ahead hw hr2 (by omega)
  have hol := enR_out (t := t) (l := r.Fields) (a := ahead)
  unfold reqW encRb
  by_cases c1 : reqFlt r.Fields = 0
  · rw [c1] at h1
    rw [if_neg (by omega)]
    by_cases c2 : 200 < r.Body.length
    · rw [if_pos c2]
      clear h2 hol
      refine fn_of_run (by kernel_rfl) Try.func33 rfl (by kernel_rfl) ?_
      (repeat' first | (refine s_call (h1) (h := ?_)) | (refine p_call (h1) (h := ?_)) | (refine go_ ?_; ((repeat' first | exact True.intro | refine Two.mk ?_ ?_); all_goals intros)) | fail "")
      all_goals first
        | exact ends_ (hr := rfl)
        | (exact endwA_)
        | skip
    · rw [if_neg c2]
      generalize enR t r.Fields ahead = x at *
      obtain ⟨⟨room, put, rows⟩, tell, sec, e⟩ := x
      unfold encEb at h2
      dsimp only [encTable] at *
      by_cases c3 : e = 0
      · have hol := hol c3
        subst c3
        rw [if_neg (by omega)]
        have h3 := varX_fn sec.length (by omega)
        have h4 := varX_fn r.Body.length (by omega)
        have l1 := varB_8 sec.length
        have l2 := varB_8 r.Body.length
        unfold frm
        generalize varB sec.length = v1 at *
        generalize varB r.Body.length = v2 at *
        by_cases c4 : r.Body.length = 0
        · rw [if_pos (List.eq_nil_of_length_eq_zero c4), List.append_nil]
          refine fn_of_run (by kernel_rfl) Try.func33 rfl (by kernel_rfl) ?_
          (repeat' first | (refine s_call (h1) (h := ?_)) | (refine p_call (h1) (h := ?_)) | (refine s_call (h2) (h := ?_)) | (refine p_call (h2) (h := ?_)) | (refine s_call (h3) (h := ?_)) | (refine p_call (h3) (h := ?_)) | (refine s_call (h4) (h := ?_)) | (refine p_call (h4) (h := ?_)) | (refine go_ ?_; ((repeat' first | exact True.intro | refine Two.mk ?_ ?_); all_goals intros)) | fail "")
          all_goals first
            | exact ends_ (hr := rfl)
            | skip
        · rw [if_neg (fun h => c4 (by rw [h]; rfl))]
          refine fn_of_run (by kernel_rfl) Try.func33 rfl (by kernel_rfl) ?_
          (repeat' first | (refine s_call (h1) (h := ?_)) | (refine p_call (h1) (h := ?_)) | (refine s_call (h2) (h := ?_)) | (refine p_call (h2) (h := ?_)) | (refine s_call (h3) (h := ?_)) | (refine p_call (h3) (h := ?_)) | (refine s_call (h4) (h := ?_)) | (refine p_call (h4) (h := ?_)) | (refine go_ ?_; ((repeat' first | exact True.intro | refine Two.mk ?_ ?_); all_goals intros)) | fail "")
          all_goals first
            | exact ends_ (hr := rfl)
            | skip
      · rw [if_pos c3]
        refine fn_of_run (by kernel_rfl) Try.func33 rfl (by kernel_rfl) ?_
        (repeat' first | (refine s_call (h1) (h := ?_)) | (refine p_call (h1) (h := ?_)) | (refine s_call (h2) (h := ?_)) | (refine p_call (h2) (h := ?_)) | (refine go_ ?_; ((repeat' first | exact True.intro | refine Two.mk ?_ ?_); all_goals intros)) | fail "")
        all_goals first
          | exact ends_ (hr := rfl)
          | (exact endwA_)
          | skip
  · rw [if_pos c1]
    generalize reqFlt r.Fields = e at *
    refine fn_of_run (by kernel_rfl) Try.func33 rfl (by kernel_rfl) ?_
    (repeat' first | (refine s_call (h1) (h := ?_)) | (refine p_call (h1) (h := ?_)) | (refine go_ ?_; ((repeat' first | exact True.intro | refine Two.mk ?_ ?_); all_goals intros)) | fail "")
    all_goals first
      | exact ends_ (hr := rfl)
      | (exact endwA_)
      | skip
end Go.Proofs.Ythpophgcmgdpjaa
