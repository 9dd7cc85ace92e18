
import Derived.Test.YtendheafcbickaaGreatHGo
import Derived.Test.YtendheafcbickaaGreatHMg22
import Derived.Test.YtendheafcbickaaGreatHMg06
set_option linter.unusedVariables false
set_option linter.unusedSimpArgs false
set_option linter.unusedVariables false
namespace Go.Proofs.YtendheafcbickaaGreat
set_option maxRecDepth 100000
attribute [local irreducible] Run RunL QStep GStep Fn Less PL FnM
def hdFlt (h:DHead):Int:=
  if h.Kind<0∨2<h.Kind then 2 else if 120<h.Token.length then 1 else if ¬ (0≤h.To∧h.To≤255) ∨ ¬ (0≤h.From∧h.From≤255) then 6
  else if h.Kind=1 then (if ¬ h.Size=0 ∨ ¬ h.Number=0 then 3 else 0)
  else if h.Size<1∨4<h.Size∨h.Number<0∨((256 ^ h.Size.toNat:Nat):Int)≤h.Number then 6
  else if h.Kind=2∧(¬ h.From=0∨0<h.Token.length) then 3 else 0
theorem byteOf_fnm (n:Int):FnM Tryz.prog 306 [.lit (.int .i64 n)] [] 0 (.lit (.bool (decide (0≤n∧n≤255)))) [] 0:=by
  refine fnm_of_run (by kernel_rfl) Tryz.func306 rfl (by kernel_rfl) (by rfl) ?_
  (repeat' first|(refine go_ ?_;((repeat' first|exact True.intro|refine Two.mk ?_ ?_);all_goals intros))|fail "")
  all_goals first
    | (rw [decide_eq_true (by omega)];(exact endmA_))
    | (rw [decide_eq_false (by omega)];(exact endmA_))
theorem pow256 (s:Nat) (h1:s≤4):IntKind.i64.wrap (1 * 2 ^ min (8 * (s:Int)).toNat IntKind.i64.bits)=((256 ^ s:Nat):Int)∧1≤256 ^ s∧256 ^ s≤4294967296:=by
  rcases (show s=0∨s=1∨s=2∨s=3∨s=4 by omega) with rfl|rfl|rfl|rfl|rfl <;> decide
set_option maxHeartbeats 2000000 in
theorem headCheck_fn (h:DHead) (hw:wfHead h):Fn Tryz.prog 278 [.agg (encHead h)] (.lit (.int .i64 (hdFlt h))):=by
  obtain ⟨w1,w2,w3,w4,w5,w6⟩:=hw
  unfold I64 at *
  have b1:=byteOf_fnm h.To
  have b2:=byteOf_fnm h.From
  unfold hdFlt
  by_cases hT:0≤h.To∧h.To≤255
  · rw [decide_eq_true hT] at b1
    by_cases hF:0≤h.From∧h.From≤255
    · rw [decide_eq_true hF] at b2
      have hn:¬ (¬ (0≤h.To∧h.To≤255) ∨ ¬ (0≤h.From∧h.From≤255)):=by omega
      by_cases hS:1≤h.Size∧h.Size≤4
      · obtain ⟨s,hs⟩:=Int.eq_ofNat_of_zero_le (show 0≤h.Size by omega)
        obtain ⟨p1,p2,p3⟩:=pow256 s (by omega)
        rw [← hs] at p1
        rw [show h.Size.toNat=s by omega]
        generalize 256 ^ s=P at *
        refine fn_of_run (by kernel_rfl) Tryz.func278 rfl (by kernel_rfl) ?_
        (repeat' first|refine s_callV [] (b1) (h:=?_)|refine s_callV [] (b2) (h:=?_)|(refine go_ ?_;((repeat' first|exact True.intro|refine Two.mk ?_ ?_);all_goals intros))|fail "")
        all_goals first
          | (refine ends_ (hr := ?_)
             simp only [if_neg hn]
             first
              | (rw [if_pos (by omega)] <;> rfl)
              | (rw [if_neg (by omega),if_pos (by omega)] <;> rfl)
              | (rw [if_neg (by omega),if_neg (by omega),if_pos (by omega),if_pos (by omega)] <;> rfl)
              | (rw [if_neg (by omega),if_neg (by omega),if_pos (by omega),if_neg (by omega)] <;> rfl)
              | (rw [if_neg (by omega),if_neg (by omega),if_neg (by omega),if_pos (by omega)] <;> rfl)
              | (rw [if_neg (by omega),if_neg (by omega),if_neg (by omega),if_neg (by omega),if_pos (by omega)] <;> rfl)
              | (rw [if_neg (by omega),if_neg (by omega),if_neg (by omega),if_neg (by omega),if_neg (by omega)] <;> rfl))
          | skip
      · refine fn_of_run (by kernel_rfl) Tryz.func278 rfl (by kernel_rfl) ?_
        (repeat' first|refine s_callV [] (b1) (h:=?_)|refine s_callV [] (b2) (h:=?_)|(refine go_ ?_;((repeat' first|exact True.intro|refine Two.mk ?_ ?_);all_goals intros))|fail "")
        all_goals first
          | (refine ends_ (hr := ?_)
             simp only [if_neg hn]
             first
              | (rw [if_pos (by omega)] <;> rfl)
              | (rw [if_neg (by omega),if_pos (by omega)] <;> rfl)
              | (rw [if_neg (by omega),if_neg (by omega),if_pos (by omega),if_pos (by omega)] <;> rfl)
              | (rw [if_neg (by omega),if_neg (by omega),if_pos (by omega),if_neg (by omega)] <;> rfl)
              | (rw [if_neg (by omega),if_neg (by omega),if_neg (by omega),if_pos (by omega)] <;> rfl))
          | skip
    · rw [decide_eq_false hF] at b2
      have hp:¬ (0≤h.To∧h.To≤255) ∨ ¬ (0≤h.From∧h.From≤255):=.inr hF
      simp only [if_pos hp]
      refine fn_of_run (by kernel_rfl) Tryz.func278 rfl (by kernel_rfl) ?_
      (repeat' first|refine s_callV [] (b1) (h:=?_)|refine s_callV [] (b2) (h:=?_)|(refine go_ ?_;((repeat' first|exact True.intro|refine Two.mk ?_ ?_);all_goals intros))|fail "")
      all_goals first
        | (refine ends_ (hr:=?_);first
            | (rw [if_pos (by omega)] <;> rfl)
            | (rw [if_neg (by omega),if_pos (by omega)] <;> rfl)
            | (rw [if_neg (by omega),if_neg (by omega)] <;> rfl))
        | skip
  · rw [decide_eq_false hT] at b1
    have hp:¬ (0≤h.To∧h.To≤255) ∨ ¬ (0≤h.From∧h.From≤255):=.inl hT
    simp only [if_pos hp]
    refine fn_of_run (by kernel_rfl) Tryz.func278 rfl (by kernel_rfl) ?_
    (repeat' first|refine s_callV [] (b1) (h:=?_)|refine s_callV [] (b2) (h:=?_)|(refine go_ ?_;((repeat' first|exact True.intro|refine Two.mk ?_ ?_);all_goals intros))|fail "")
    all_goals first
      | (refine ends_ (hr:=?_);first
          | (rw [if_pos (by omega)] <;> rfl)
          | (rw [if_neg (by omega),if_pos (by omega)] <;> rfl)
          | (rw [if_neg (by omega),if_neg (by omega)] <;> rfl))
      | skip
set_option maxHeartbeats 2000000 in
theorem headFault_fn (h:DHead) (hw:wfHead h):Fn Tryz.prog 226 [.agg (encHead h)] (.lit (.int .i64 (hdFlt h))):=by
  obtain ⟨w1,w2,w3,w4,w5,w6⟩:=hw
  unfold I64 at *
  unfold hdFlt
  by_cases hS:1≤h.Size∧h.Size≤4
  · obtain ⟨s,hs⟩:=Int.eq_ofNat_of_zero_le (show 0≤h.Size by omega)
    obtain ⟨p1,p2,p3⟩:=pow256 s (by omega)
    rw [← hs] at p1
    rw [show h.Size.toNat=s by omega]
    generalize 256 ^ s=P at *
    refine fn_of_run (by kernel_rfl) Tryz.func226 rfl (by kernel_rfl) ?_
    (repeat' first|(refine s_dec (upTo_fn _ _) (ht:=?_) (hff:=?_) <;> intro _ <;> try (exfalso;omega))|(refine p_dec (upTo_fn _ _) (ht:=?_) (hff:=?_) <;> intro _ <;> try (exfalso;omega))|(refine go_ ?_;((repeat' first|exact True.intro|refine Two.mk ?_ ?_);all_goals intros))|fail "")
    all_goals first
      | (refine ends_ (hr:=?_);first
          | (rw [if_pos (by omega)] <;> rfl)
          | (rw [if_neg (by omega),if_pos (by omega)] <;> rfl)
          | (rw [if_neg (by omega),if_neg (by omega),if_pos (by omega)] <;> rfl)
          | (rw [if_neg (by omega),if_neg (by omega),if_neg (by omega),if_pos (by omega),if_pos (by omega)] <;> rfl)
          | (rw [if_neg (by omega),if_neg (by omega),if_neg (by omega),if_pos (by omega),if_neg (by omega)] <;> rfl)
          | (rw [if_neg (by omega),if_neg (by omega),if_neg (by omega),if_neg (by omega),if_pos (by omega)] <;> rfl)
          | (rw [if_neg (by omega),if_neg (by omega),if_neg (by omega),if_neg (by omega),if_neg (by omega),if_pos (by omega)] <;> rfl)
          | (rw [if_neg (by omega),if_neg (by omega),if_neg (by omega),if_neg (by omega),if_neg (by omega),if_neg (by omega)] <;> rfl))
      | skip
  · have hS1:¬ (0≤IntKind.i64.wrap (h.Size - 1)∧IntKind.i64.wrap (h.Size - 1)≤3):=by rw [IntKind.wrap_i64];omega
    refine fn_of_run (by kernel_rfl) Tryz.func226 rfl (by kernel_rfl) ?_
    (repeat' first|(refine s_dec (upTo_fn _ _) (ht:=?_) (hff:=?_) <;> intro _ <;> try (exfalso;omega))|(refine p_dec (upTo_fn _ _) (ht:=?_) (hff:=?_) <;> intro _ <;> try (exfalso;omega))|(refine go_ ?_;((repeat' first|exact True.intro|refine Two.mk ?_ ?_);all_goals intros))|fail "")
    all_goals first
      | (refine ends_ (hr:=?_);first
          | (rw [if_pos (by omega)] <;> rfl)
          | (rw [if_neg (by omega),if_pos (by omega)] <;> rfl)
          | (rw [if_neg (by omega),if_neg (by omega),if_pos (by omega)] <;> rfl)
          | (rw [if_neg (by omega),if_neg (by omega),if_neg (by omega),if_pos (by omega),if_pos (by omega)] <;> rfl)
          | (rw [if_neg (by omega),if_neg (by omega),if_neg (by omega),if_pos (by omega),if_neg (by omega)] <;> rfl)
          | (rw [if_neg (by omega),if_neg (by omega),if_neg (by omega),if_neg (by omega),if_pos (by omega)] <;> rfl))
      | skip
end Go.Proofs.YtendheafcbickaaGreat
