
import Derived.Test.YtendheafcbickaaGreatRows
namespace Go.Proofs.YtendheafcbickaaGreat
theorem Z1_ {P:Prop} (h:P:=by first|((first|with_reducible rfl|with_reducible exact List.nil_append _|with_reducible exact (List.map_append ..).symm|(rw [take_snoc (by assumption),List.map_append];rfl)|(rw [List.map_append];rfl)|(simp;done)) <;> fail)|fail):P:=h
theorem Z2_ {P:Prop} (h:P:=by first|((focus ((exact mark_set hk8.1 h64 (by unfold varM;(repeat' split) <;> omega) (by first|((obtain rfl:j=2:=by omega);rfl)|((obtain rfl:j=4:=by omega);rfl)|((obtain rfl:j=8:=by omega);rfl))))) <;> fail)|fail):P:=h
theorem Z3_ {P:Prop} (h:P:=by first|((focus (exact ⟨by dsimp only;omega,hcn,s1,by dsimp only;rw [s2];exact hN,by dsimp only;omega,by dsimp only;rw [List.length_append,List.length_singleton];omega,by dsimp only;rw [hm2];exact hA⟩)) <;> fail)|fail):P:=h
theorem Z4_ {P:Prop} (h:P:=by first|((focus (have hg:rGood (l.getD k default):=(by assumption);unfold rGood at hg;refine ⟨hkn,⟨fun h=>(hd.1 (hi.1 h)).2.2,fun h=>hi.2 (hd.2 ⟨by assumption,?_,h⟩)⟩,?_,?_⟩ <;> omega)) <;> fail)|fail):P:=h
theorem Z5_ {P:Prop} (h:P:=by first|((focus (refine ⟨hkn,(fun h=>by cases h),fun h=>?_⟩;obtain ⟨q1,q2,q3,q4,q5,q6,q7,q8⟩:=hq.1 (allTo_succ.1 h.2).2;first|(exfalso;omega)|exact absurd (by assumption) q7)) <;> fail)|fail):P:=h
theorem Z6_ {P:Prop} (h:P:=by first|((focus (first|((exact congrArg (fun x=>List.map encB [UInt8.ofNat (n / 256 ^ 3),UInt8.ofNat (n / 256 ^ 2),UInt8.ofNat (n / 256 ^ 1)]++[x]) (shrB n 0 (by omega))))|exact Z1_)) <;> fail)|fail):P:=h
theorem Z7_ {P:Prop} (h:P:=by first|((focus (exact ⟨hkn,a2,by dsimp only;rw [a3];exact hN,by dsimp only;omega,by dsimp only;omega,by dsimp only;rw [List.length_append,List.length_singleton];omega,hT⟩)) <;> fail)|fail):P:=h
theorem Z8_ {P:Prop} (h:P:=by first|((focus (exact ⟨hkn,fun _=>⟨hh,allTo_succ.2 ⟨ha,hq.2 ⟨by omega,by omega,by omega,by omega,by omega,by omega,by assumption,by omega⟩⟩⟩,fun _=>rfl⟩)) <;> fail)|fail):P:=h
theorem Z9_ {P:Prop} (h:P:=by first|((focus (first|((exact congrArg (fun x=>List.map encB [UInt8.ofNat (n / 256 ^ 2),UInt8.ofNat (n / 256 ^ 1)]++[x]) (shrB n 0 (by omega))))|exact Z1_)) <;> fail)|fail):P:=h
theorem Z10_ {P:Prop} (h:P:=by first|((focus (first|((exact congrArg (fun x=>List.map encB [UInt8.ofNat (n / 256 ^ 3),UInt8.ofNat (n / 256 ^ 2)]++[x]) (shrB n 1 (by omega))))|exact Z1_)) <;> fail)|fail):P:=h
theorem Z11_ {P:Prop} (h:P:=by first|((focus (first|omega|(simp only [List.length_append,List.length_map,List.length_cons,List.length_nil,List.length_take,List.length_drop];omega))) <;> fail)|fail):P:=h
theorem Z12_ {P:Prop} (h:P:=by first|((focus ((conv=>lhs;rhs;whnf);simp only [List.length_map,List.length_append,List.length_cons,List.length_nil,List.length_take];omega)) <;> fail)|fail):P:=h
theorem Z13_ {P:Prop} (h:P:=by first|((focus (first|omega|(simp only [List.length_map,List.length_append,List.length_take,List.length_drop,List.length_replicate];omega))) <;> fail)|fail):P:=h
theorem Z14_ {P:Prop} (h:P:=by first|((focus (exact ⟨hT2,okFs_snoc ho hf.1 hf.2,hq',by (rw [List.length_append,List.length_singleton];omega),by (dsimp only;omega)⟩)) <;> fail)|fail):P:=h
theorem Z15_ {P:Prop} (h:P:=by first|((focus (first|((exact congrArg (fun x=>List.map encB [UInt8.ofNat (n / 256 ^ 1)]++[x]) (shrB n 0 (by omega))))|exact Z1_)) <;> fail)|fail):P:=h
theorem Z16_ {P:Prop} (h:P:=by first|((focus (first|((exact congrArg (fun x=>List.map encB [UInt8.ofNat (n / 256 ^ 2)]++[x]) (shrB n 1 (by omega))))|exact Z1_)) <;> fail)|fail):P:=h
theorem Z17_ {P:Prop} (h:P:=by first|((focus (first|((exact congrArg (fun x=>List.map encB [UInt8.ofNat (n / 256 ^ 3)]++[x]) (shrB n 2 (by omega))))|exact Z1_)) <;> fail)|fail):P:=h
theorem Z18_ {P:Prop} (h:P:=by first|((focus (exact ⟨hkn,a2,by dsimp only;rw [a3];exact hN,by dsimp only;omega,by dsimp only;omega,by dsimp only;omega,hT⟩)) <;> fail)|fail):P:=h
theorem Z19_ {P:Prop} (h:P:=by first|((focus ((conv=>lhs;rhs;whnf);simp only [List.length_map,List.length_reverse,List.length_cons,List.length_nil];omega)) <;> fail)|fail):P:=h
theorem Z20_ {P:Prop} (h:P:=by first|((focus (refine ⟨(by dsimp only;omega),(fun _=>flt_tail (by rw [← ht,if_neg (by omega)];rfl)),fun h=>by cases h⟩)) <;> fail)|fail):P:=h
theorem Z21_ {P:Prop} (h:P:=by first|((focus (first|(rw [wSt1,wSt2,htk,if_pos c2,← List.append_assoc,List.map_append (l₂:=[_])];rfl)|exact Z1_)) <;> fail)|fail):P:=h
theorem Z22_ {P:Prop} (h:P:=by first|((focus (simp only [List.length_map,List.length_append,List.length_cons,List.length_nil,List.length_take];omega)) <;> fail)|fail):P:=h
theorem Z23_ {P:Prop} (h:P:=by first|((focus (exact ⟨hkn,(fun h=>by cases h),fun h=>(by have h2:=(hs.1 h.2).2;(try dsimp only at h2);omega)⟩)) <;> fail)|fail):P:=h
theorem Z24_ {P:Prop} (h:P:=by first|((focus (exact ⟨hkn,(fun h=>by cases h),fun h=>(by have h3:=(hs.1 h.2).2.2.2;rw [hb] at h3;cases h3)⟩)) <;> fail)|fail):P:=h
theorem Z25_ {P:Prop} (h:P:=by first|((focus (first|exact Nat.le_of_ble_eq_true rfl|((conv=>lhs;lhs;whnf);simp only [Nat.one_mul];omega))) <;> fail)|fail):P:=h
theorem Z26_ {P:Prop} (h:P:=by first|((focus (refine ⟨hkn,(fun h=>by cases h),fun h=>?_⟩;have:=hq.1 (allTo_succ.1 h.2).2;exfalso;omega)) <;> fail)|fail):P:=h
theorem Z27_ {P:Prop} (h:P:=by first|((focus (exact ⟨hkn,fun _=>⟨hh,allTo_succ.2 ⟨ha,hq.2 ⟨by omega,by omega,by omega⟩⟩⟩,fun _=>rfl⟩)) <;> fail)|fail):P:=h
theorem Z28_ {P:Prop} (h:P:=by first|((focus (first|((exact congrArg (fun x=>List.map encB []++[x]) (shrB n 0 (by omega))))|exact Z1_)) <;> fail)|fail):P:=h
theorem Z29_ {P:Prop} (h:P:=by first|((focus (first|((exact congrArg (fun x=>List.map encB []++[x]) (shrB n 1 (by omega))))|exact Z1_)) <;> fail)|fail):P:=h
theorem Z30_ {P:Prop} (h:P:=by first|((focus (first|((exact congrArg (fun x=>List.map encB []++[x]) (shrB n 2 (by omega))))|exact Z1_)) <;> fail)|fail):P:=h
theorem Z31_ {P:Prop} (h:P:=by first|((focus (first|((exact congrArg (fun x=>List.map encB []++[x]) (shrB n 3 (by omega))))|exact Z1_)) <;> fail)|fail):P:=h
theorem Z32_ {P:Prop} (h:P:=by first|((focus (exact ⟨hkn,fun _=>⟨hlen,take_same hkn (by omega) ht (by assumption)⟩,fun h=>by cases h⟩)) <;> fail)|fail):P:=h
theorem Z33_ {P:Prop} (h:P:=by first|((focus (simp only [List.length_map,List.length_reverse,List.length_cons,List.length_nil];omega)) <;> fail)|fail):P:=h
theorem Z34_ {P:Prop} (h:P:=by first|((focus (refine ⟨hkn,fun h=>?_⟩;rw [mem_snoc hkn] at h;rcases h with h|h;exact hn h;omega)) <;> fail)|fail):P:=h
theorem Z35_ {P:Prop} (h:P:=by first|((focus (exact ⟨by decide,(fun h=>by cases h),fun h=>absurd (hs.1 h.2).2 (by assumption)⟩)) <;> fail)|fail):P:=h
theorem Z36_ {P:Prop} (h:P:=by first|((focus (first|rfl|(simp only [Option.getD_some,Option.getD_none,List.length_map];omega))) <;> fail)|fail):P:=h
theorem Z37_ {P:Prop} (h:P:=by first|((focus (exact ⟨hkn,fun _=>⟨hh,hs.2 ⟨ha,(by omega),(by assumption),hb⟩⟩,fun _=>rfl⟩)) <;> fail)|fail):P:=h
theorem Z38_ {P:Prop} (h:P:=by first|((focus (exact ⟨hkn,(fun h=>by cases h),fun h=>absurd (hs.1 h.2).2.2.1 (by assumption)⟩)) <;> fail)|fail):P:=h
theorem Z39_ {P:Prop} (h:P:=by first|((focus (first|(rw [htk];simp only [List.map_append,List.append_assoc];rfl)|exact Z1_)) <;> fail)|fail):P:=h
theorem Z40_ {P:Prop} (h:P:=by first|((focus (exact ⟨hkn,(fun h=>by cases h),fun h=>absurd ⟨h.1,(allTo_succ.1 h.2).1⟩ hi⟩)) <;> fail)|fail):P:=h
theorem Z41_ {P:Prop} (h:P:=by first|((focus (first|((rw [hps,← List.append_assoc];exact List.map_append.symm))|exact Z1_)) <;> fail)|fail):P:=h
theorem Z42_ {P:Prop} (h:P:=by first|((focus (simp only [reduceCtorEq,true_iff,false_iff,iff_true,iff_false] at hr ⊢;omega)) <;> fail)|fail):P:=h
theorem Z43_ {P:Prop} (h:P:=by first|((focus (first|(rw [e,← List.append_assoc,List.map_append (l₁:=p++_)])|exact Z1_)) <;> fail)|fail):P:=h
theorem Z44_ {P:Prop} (h:P:=by first|((focus (exact ⟨by decide,(fun h=>by cases h),fun h=>absurd ⟨h.1,(hs.1 h.2).1⟩ hi⟩)) <;> fail)|fail):P:=h
theorem Z45_ {P:Prop} (h:P:=by first|((focus (exact ⟨hkn,fun h=>(by cases h),fun _=>ne_getD (k:=k) (by assumption)⟩)) <;> fail)|fail):P:=h
theorem Z46_ {P:Prop} (h:P:=by first|((focus (exact ⟨hkn,(fun h=>by cases h),fun h=>absurd ⟨h.1,(hs.1 h.2).1⟩ hi⟩)) <;> fail)|fail):P:=h
theorem Z47_ {P:Prop} (h:P:=by first|((focus (first|exact len_none|exact len_one rfl|exact len_enc (fun _=>rfl))) <;> fail)|fail):P:=h
theorem Z48_ {P:Prop} (h:P:=by first|((focus (exact ⟨by decide,fun _=>⟨hh,hs.2 ⟨ha,by assumption⟩⟩,fun _=>rfl⟩)) <;> fail)|fail):P:=h
theorem Z49_ {P:Prop} (h:P:=by first|((focus (first|(rw [wSt0,wSt1,if_pos c1,List.map_append];rfl)|exact Z1_)) <;> fail)|fail):P:=h
theorem Z50_ {P:Prop} (h:P:=by first|((focus (exact ⟨hkn,fun _=>⟨hh,hs.2 ⟨ha,by assumption⟩⟩,fun _=>rfl⟩)) <;> fail)|fail):P:=h
theorem Z51_ {P:Prop} (h:P:=by first|((focus (first|(rw [drop_rev hj0 hj,List.map_append];rfl)|exact Z1_)) <;> fail)|fail):P:=h
theorem Z52_ {P:Prop} (h:P:=by first|((focus (exact ⟨hkn,fun _=>⟨hh,hs.2 ⟨ha,by omega⟩⟩,fun _=>rfl⟩)) <;> fail)|fail):P:=h
theorem Z53_ {P:Prop} (h:P:=by first|((focus (first|(rw [List.map_append (l₂:=f.Data)])|exact Z1_)) <;> fail)|fail):P:=h
theorem Z54_ {P:Prop} (h:P:=by first|((focus (first|(rw [List.map_append (l₂:=tok)])|exact Z1_)) <;> fail)|fail):P:=h
theorem Z55_ {P:Prop} (h:P:=by first|((focus (first|with_reducible rfl|assumption|(simp;done))) <;> fail)|fail):P:=h
theorem Z56_ {P:Prop} (h:P:=by first|((focus (exact ⟨(fun h=>by cases h),fun h=>(by omega)⟩)) <;> fail)|fail):P:=h
theorem Z57_ {P:Prop} (h:P:=by first|((focus (first|((rw [List.map_append];rfl))|exact Z1_)) <;> fail)|fail):P:=h
theorem Z58_ {P:Prop} (h:P:=by first|((focus (exact ⟨by omega,by omega,by omega,by omega⟩)) <;> fail)|fail):P:=h
theorem Z59_ {P:Prop} (h:P:=by first|((focus (first|(rw [e,List.map_append])|exact Z1_)) <;> fail)|fail):P:=h
theorem Z60_ {P:Prop} (h:P:=by first|((focus (first|((rw [List.map_append]))|exact Z1_)) <;> fail)|fail):P:=h
theorem Z61_ {P:Prop} (h:P:=by first|((focus (first|(rw [List.map_append])|exact Z1_)) <;> fail)|fail):P:=h
theorem Z62_ {P:Prop} (h:P:=by first|((focus (exact ⟨fun _=>(by omega),fun _=>rfl⟩)) <;> fail)|fail):P:=h
theorem Z63_ {P:Prop} (h:P:=by first|((focus (first|(exact e)|exact Z1_)) <;> fail)|fail):P:=h
theorem Z64_ {P:Prop} (h:P:=by first|((focus (rw [e,List.append_assoc])) <;> fail)|fail):P:=h
theorem Z65_ {P:Prop} (h:P:=by first|((focus (first|exact Z1_)) <;> fail)|fail):P:=h
theorem Z66_ {P:Prop} (h:P:=by first|((focus (dsimp only;omega)) <;> fail)|fail):P:=h
theorem Z67_ {P:Prop} (h:P:=by first|((focus (exact hkn)) <;> fail)|fail):P:=h
theorem Z68_ {P:Prop} (h:P:=by first|((focus (trivial)) <;> fail)|fail):P:=h
theorem Z69_ {P:Prop} (h:P:=by first|((focus (omega)) <;> fail)|fail):P:=h
end Go.Proofs.YtendheafcbickaaGreat
