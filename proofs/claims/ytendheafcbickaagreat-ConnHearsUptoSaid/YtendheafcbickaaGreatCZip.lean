
import Derived.Test.YtendheafcbickaaGreatRows
set_option linter.unusedVariables false
set_option linter.unusedSimpArgs false
namespace Go.Proofs.YtendheafcbickaaGreat
variable {P:Prop}
theorem ah:type_of% @if_neg:=@if_neg
theorem al:type_of% @if_pos:=@if_pos
theorem bZ:type_of% @List.getD_eq_getElem?_getD:=@List.getD_eq_getElem?_getD
theorem bY:type_of% @List.length_map:=@List.length_map
theorem ck:type_of% @Option.some.injEq:=@Option.some.injEq
theorem eE:type_of% @List.length_append:=@List.length_append
theorem cm:type_of% @Nat.zero_le:=@Nat.zero_le
theorem eB:type_of% @List.getElem?_eq_getElem:=@List.getElem?_eq_getElem
theorem eb:type_of% @List.length_cons:=@List.length_cons
theorem gg:type_of% @Array.getD_eq_getD_getElem?:=@Array.getD_eq_getD_getElem?
theorem gB:type_of% @Array.getElem?_eq_some_iff:=@Array.getElem?_eq_some_iff
theorem fV:type_of% @List.mem_cons_self:=@List.mem_cons_self
theorem j9:type_of% @List.take_of_length_le:=@List.take_of_length_le
theorem ha:type_of% @List.mem_cons_of_mem:=@List.mem_cons_of_mem
theorem e1:type_of% @List.length_set:=@List.length_set
theorem fg:type_of% @List.length_nil:=@List.length_nil
theorem kO:type_of% @List.length_take:=@List.length_take
theorem fM:type_of% @Bool.and_eq_true:=@Bool.and_eq_true
theorem e4:type_of% @Nat.le_refl:=@Nat.le_refl
theorem iS:type_of% @Bool.false_ne_true:=@Bool.false_ne_true
theorem iF:type_of% @Nat.eq_of_beq_eq_true:=@Nat.eq_of_beq_eq_true
theorem lV:type_of% @List.append_nil:=@List.append_nil
theorem ix:type_of% @List.map_append:=@List.map_append
theorem iJ:type_of% @List.drop_length:=@List.drop_length
theorem lS:type_of% @List.append_assoc:=@List.append_assoc
theorem iX:type_of% @List.mem_singleton:=@List.mem_singleton
theorem l2:type_of% @Array.getElem?_eq_getElem:=@Array.getElem?_eq_getElem
theorem bM:type_of% @Nat.le_of_ble_eq_true:=@Nat.le_of_ble_eq_true
theorem iM:type_of% @List.map_cons:=@List.map_cons
theorem oA:type_of% @List.length_filter_le:=@List.length_filter_le
theorem jv:type_of% @List.cons_append:=@List.cons_append
theorem kg:type_of% @List.nil_append:=@List.nil_append
theorem hX:type_of% @List.mem_cons:=@List.mem_cons
theorem gr:type_of% @List.mem_append:=@List.mem_append
theorem pj:type_of% @List.eq_nil_of_length_eq_zero:=@List.eq_nil_of_length_eq_zero
theorem kk:type_of% @Nat.mul_le_mul_right:=@Nat.mul_le_mul_right
theorem ko:type_of% @List.getElem?_eq_some_iff:=@List.getElem?_eq_some_iff
theorem mJ:type_of% @List.length_drop:=@List.length_drop
theorem sg:type_of% @List.getElem?_append_right:=@List.getElem?_append_right
theorem sh:type_of% @List.getElem?_append_left:=@List.getElem?_append_left
theorem nU:type_of% @List.getElem?_set:=@List.getElem?_set
theorem qn:type_of% @List.getElem?_map:=@List.getElem?_map
theorem n7:type_of% @List.getElem?_take:=@List.getElem?_take
theorem sZ:type_of% @List.map_nil:=@List.map_nil
theorem sY:type_of% @List.length_replicate:=@List.length_replicate
theorem vo:type_of% @List.mem_or_eq_of_mem_set:=@List.mem_or_eq_of_mem_set
theorem tn:type_of% @Option.getD_some:=@Option.getD_some
theorem qJ:type_of% @Nat.le_trans:=@Nat.le_trans
theorem lG:type_of% @List.all_eq_true:=@List.all_eq_true
theorem pQ:type_of% @Array.length_toList:=@Array.length_toList
theorem tr:type_of% @Array.getElem?_toList:=@Array.getElem?_toList
theorem q3:type_of% @List.map_set:=@List.map_set
theorem ra:type_of% @Nat.sub_self:=@Nat.sub_self
theorem kq:type_of% @Nat.add_zero:=@Nat.add_zero
theorem fy:type_of% @Nat.zero_add:=@Nat.zero_add
theorem nG:type_of% @Nat.succ_mul:=@Nat.succ_mul
theorem nL (h:P:=by first|((first|with_reducible rfl|with_reducible exact kg _|with_reducible exact(ix ..).symm|(rw[mN (by assumption),ix];rfl)|(rw[ix];rfl)|(simp;done)) <;> fail)|fail):P:=h
theorem dA (h:P:=by first|((first|(exact gS)|(exfalso;omega)|exact True.intro) <;> fail)|fail):P:=h
theorem Gh (h:P:=by first|((first|(exact⟨false,rfl,ba⟩)|(exfalso;omega)|exact True.intro) <;> fail)|fail):P:=h
theorem fq (h:P:=by first|((first|(exact gS)|exact True.intro) <;> fail)|fail):P:=h
theorem nY (h:P:=by first|((first|(exact qR)|exact True.intro) <;> fail)|fail):P:=h
theorem EO (h:P:=by first|((first|(exact qR)|(exfalso;omega)|(exfalso;simp only[bY] at *;omega)|exact True.intro) <;> fail)|fail):P:=h
theorem ed (h:P:=by first|((first|(exact qR)|(exfalso;omega)|exact True.intro) <;> fail)|fail):P:=h
theorem F0 (h:P:=by first|((first|(exact⟨true,⟨fun _=>(by omega),fun _=>rfl⟩,ba⟩)|(exact⟨false,⟨(fun h=>by cases h),fun h=>(by omega)⟩,ba⟩)|exact True.intro) <;> fail)|fail):P:=h
theorem ys (h:P:=by first|((first|(exact⟨(k+1,false),(by dsimp only;omega),⟨au,(fun h=>by cases h),fun h=>absurd ⟨h.1,(aw.1 h.2).1⟩ hi⟩,ba⟩)|exact True.intro) <;> fail)|fail):P:=h
theorem F3 (h:P:=by first|((first|(exact⟨(k+1,true),(by dsimp only;omega),⟨au,fun _=>⟨hh,aw.2 ⟨br,by assumption⟩⟩,fun _=>rfl⟩,ba⟩)|(exact⟨(k+1,false),(by dsimp only;omega),(by exact⟨au,(fun h=>by cases h),fun h=>(by have aa:=(aw.1 h.2).2;(try dsimp only at aa);omega)⟩),ba⟩)|exact True.intro) <;> fail)|fail):P:=h
theorem Bl (h:P:=by first|((first|(exact⟨k+1,(by omega),au,ba⟩)|exact True.intro) <;> fail)|fail):P:=h
theorem Ik (h:P:=by first|((first|(exact⟨(k+1,a8,q),(by dsimp only;omega),(by exact⟨au,by rw[Dy];exact hm,hK,hq,fun i hi=>dc i (by omega)⟩),ba⟩)|(exfalso;omega)|exact True.intro) <;> fail)|fail):P:=h
theorem BO (h:P:=by first|((first|(exact gS)|(exfalso;simp at hf;omega)|exact True.intro) <;> fail)|fail):P:=h
theorem EG (h:P:=by first|((first|(exact⟨(k+1,((g.aD.getD k default).aP+(g.aD.getD k default).Data.length),true,l++[(g.aD.getD k default)]),(by dsimp only;omega),⟨au,bL,dJ⟩,ba⟩)|(exfalso;omega)|exact True.intro) <;> fail)|fail):P:=h
theorem EH (h:P:=by first|((first|(exact⟨(k+1,a,true,l++[(g.aD.getD k default)]),(by dsimp only;omega),⟨au,bL,dJ⟩,ba⟩)|(exfalso;omega)|exact True.intro) <;> fail)|fail):P:=h
theorem gL (h:P:=by first|((first|(exact gS)|(exfalso;omega)|(exfalso;dsimp only at *;omega)|(exfalso;simp only[IntKind.wrap_i64] at *;omega)|exact True.intro) <;> fail)|fail):P:=h
theorem BU (h:P:=by first|((first|(exact⟨(k+1,M),(by dsimp only;omega),⟨au,hi⟩,ba⟩)|(exfalso;omega)|exact True.intro) <;> fail)|fail):P:=h
theorem J5 (h:P:=by first|((first|(exact gS)|(exfalso;omega)|(exfalso;simp only[IntKind.wrap_i64] at *;omega)|exact True.intro) <;> fail)|fail):P:=h
theorem B1 (h:P:=by first|((focus ((rw[wz U ⟨aZ,cx,rd,b8,fm,⟨List.replicate m 0,true,out.Next,max out.Max out.Next,[],[],false,true⟩⟩];exact LI aC n ⟨aZ,cx,rd,b8,fm,⟨List.replicate m 0,true,out.Next,max out.Max out.Next,[],[],false,true⟩⟩ ⟨aZ,cx,rd,b8,fm,⟨List.replicate m 0,true,out.Next,max out.Max out.Next,[],[⟨0,out.Next - 1⟩],false,true⟩⟩))) <;> fail)|fail):P:=h
theorem ou (h:P:=by first|(((simp only[hA,jm,cz,cz.ej,hO,Option.map_some,Option.map_none,jv,kg,od,oT,oU,oV,oW,oX,oY,oZ,xg,xh,xi,xj,xk];rw[xl (bn:=10) (h:=?U)];(try rfl);(case U=>(intro i hi;rcases (show i=0\/i=1\/i=2\/i=3 by omega) with rfl|rfl|rfl|rfl <;> rfl)))) <;> fail)|fail):P:=h
theorem HJ (h:P:=by first|(((simp only[hA,jm,cz,cz.ej,hO,Option.map_some,Option.map_none,jv,kg,od,oT,oU,oV,oW,oX,oY,oZ,xg,xh,xi,xj,xk];rw[xl (bn:=4) (h:=?U)];(try rfl);(case U=>(intro i hi;rcases (show i=0\/i=1\/i=2\/i=3 by omega) with rfl|rfl|rfl|rfl <;> rfl)))) <;> fail)|fail):P:=h
theorem N4 (h:P:=by first|((exact⟨by simp only[eE,eb,fg];omega,by omega,fun _=>hid,by(simp only[eE,eb,fg];rw[show 4 - (a8.length+(0+1))=m by omega];exact ap)⟩) <;> fail)|fail):P:=h
theorem kc (h : P := by first | ((((repeat' (first | exact True.intro | exact rfl | exact XJ (by (intro i hi; rcases (show i = 0 \/ i = 1 \/ i = 2 \/ i = 3 by omega) with rfl | rfl | rfl | rfl <;> rfl)) | refine And.intro ?_ ?_)); first | done | fail "mem")) <;> fail) | fail) : P := h
theorem Lu (h:P:=by first|((unfold rL;dsimp only;rw[eE,Nat.add_sub_cancel];refine ⟨by omega,by omega,(by simp only[eb,fg];omega),(by simp only[eb,fg];omega),(by simp)⟩) <;> fail)|fail):P:=h
theorem Em (h:P:=by first|((rw[bY,kO] at hi;rcases (show i=0\/i=1\/i=2\/i=3 by omega) with rfl|rfl|rfl|rfl <;> first|rfl|(rw[al rfl];rfl)|(rw[ah (by decide)];rfl)|(exfalso;omega)|skip) <;> fail)|fail):P:=h
theorem vU (h:P:=by first|((rw[bY] at hi;rcases (show i=0\/i=1\/i=2\/i=3 by(have acV:=sj;omega)) with rfl|rfl|rfl|rfl <;> first|rfl|(rw[al rfl];rfl)|(rw[ah (by decide)];rfl)) <;> fail)|fail):P:=h
theorem HM (h:P:=by first|(((simp only[hA,jm,cz,cz.ej,hO,Option.map_some,Option.map_none,jv,kg,od,oT,oU,oV,oW,oX,oY,oZ,xg,xh,xi,xj,xk];rfl)) <;> fail)|fail):P:=h
theorem Lg (h:P:=by first|((have av:b9 (l.getD k default):=(by assumption);unfold b9 at av;refine ⟨au,⟨fun h=>(hd.1 (hi.1 h)).2.2,fun h=>hi.2 (hd.2 ⟨by assumption,?_,h⟩)⟩,?_,?_⟩ <;> omega) <;> fail)|fail):P:=h
theorem QE (h:P:=by first|((refine ⟨au,(fun h=>by cases h),fun h=>?_⟩;obtain ⟨aL,aS,bi,cq,e3,H9,zI,Dn⟩:=hq.1 (iQ.1 h.2).2;first|(exfalso;omega)|exact absurd (by assumption) zI) <;> fail)|fail):P:=h
theorem D1 (h:P:=by first|((first|exact Ae|exact Af|exact Ag|exact Ah|rfl|exact I7 (by omega)|exact I8 (by omega)|exact(Int.toNat_of_nonneg (by omega)).symm) <;> fail)|fail):P:=h
theorem jH (h:P:=by first|((((repeat'(first|exact True.intro|exact PG rfl rfl|exact PH rfl (by first|rfl|omega|(dsimp only;omega))|refine And.intro ?_ ?_));done)) <;> fail)|fail):P:=h
theorem zc (h:P:=by first|((rw[bY] at hi;replace hi:i<d.aq.length:=hi;rcases (show i=0\/i=1\/i=2\/i=3 by omega) with rfl|rfl|rfl|rfl <;> rfl) <;> fail)|fail):P:=h
theorem tX (h:P:=by first|((focus (subst e;((conv=>lhs;rhs;whnf);simp only[bY,eE,eb,fg,kO];omega))) <;> fail)|fail):P:=h
theorem lK (h:P:=by first|((focus (first|omega|(simp only[eE,bY,eb,fg,kO,mJ];omega))) <;> fail)|fail):P:=h
theorem dp (h:P:=by first|((focus ((conv=>lhs;rhs;whnf);simp only[bY,eE,eb,fg,kO];omega)) <;> fail)|fail):P:=h
theorem LK (h:P:=by first|((focus ((rw[wz U ⟨aZ,cx,rd,b8,true,out⟩];exact LI aC n ⟨aZ,cx,rd,b8,true,out⟩ ⟨aZ,cx,rd,true,true,out⟩))) <;> fail)|fail):P:=h
theorem gX (h:P:=by first|((focus (first|omega|(simp only[bY,eE,kO,mJ,sY];omega))) <;> fail)|fail):P:=h
theorem Lx (h:P:=by first|((unfold rL one;dsimp only;rw[eE,Nat.add_sub_cancel];refine ⟨by omega,by simp;omega,by simp,by simp,by simp⟩) <;> fail)|fail):P:=h
theorem tY (h:P:=by first|((focus (subst e;(simp only[bY,eE,eb,fg,kO];omega))) <;> fail)|fail):P:=h
theorem L3 (h:P:=by first|((exact⟨au,fun i hi=>by rcases Nat.lt_or_ge i k with h|h;exact ia i h;(obtain rfl:i=k:=by omega);exact he⟩) <;> fail)|fail):P:=h
theorem Gv (h:P:=by first|((focus ((conv=>lhs;rhs;whnf);simp only[bY,eE,eb,fg];omega)) <;> fail)|fail):P:=h
theorem tW (h:P:=by first|((focus (subst e;(first|exact Rt|exact y0 rfl|exact Ru rfl rfl|exact Rv (fun _=>rfl)))) <;> fail)|fail):P:=h
theorem Db (h:P:=by first|((focus (first|(rw[zh,NT,jx,al cU,<- lS,ix (l₂:=[_])];rfl)|exact nL)) <;> fail)|fail):P:=h
theorem dq (h:P:=by first|((focus (simp only[bY,eE,eb,fg,kO];omega)) <;> fail)|fail):P:=h
theorem Rs (h:P:=by first|((refine ⟨(by dsimp only;omega),(fun _=>E6 (by rw[<- ht,ah (by omega)];rfl)),fun h=>by cases h⟩) <;> fail)|fail):P:=h
theorem uz (h:P:=by first|((focus (show some (V.lit (Value.bool (aC.getD n default).Cut))=some (V.lit (Value.bool false));rw[hcut])) <;> fail)|fail):P:=h
theorem Pm (h:P:=by first|((first|omega|(simp only[bY,eE,eb,fg];omega)) <;> fail)|fail):P:=h
theorem LA (h:P:=by first|((focus (show some (V.lit (Value.bool (aC.getD n default).Cut))=some (V.lit (Value.bool true));rw[hcut])) <;> fail)|fail):P:=h
theorem F2 (h:P:=by first|((exact⟨au,(fun h=>by cases h),fun h=>(by have aa:=(aw.1 h.2).2;(try dsimp only at aa);omega)⟩) <;> fail)|fail):P:=h
theorem dm (h:P:=by first|((focus (first|exact Rt|exact y0 rfl|exact Ru rfl rfl|exact Rv (fun _=>rfl))) <;> fail)|fail):P:=h
theorem Ia (h:P:=by first|((refine ⟨au,(fun h=>by cases h),fun h=>?_⟩;have:=hq.1 (iQ.1 h.2).2;exfalso;omega) <;> fail)|fail):P:=h
theorem NN (h:P:=by first|((focus (show some (V.lit (Value.bool (!d.fj)))=some (V.lit (Value.bool true));rw[e7];rfl)) <;> fail)|fail):P:=h
theorem Gw (h:P:=by first|((focus (simp only[bY,eE,eb,fg];omega)) <;> fail)|fail):P:=h
theorem LD (h:P:=by first|(((repeat'(first|exact ps.nil|apply ps.cons|exact .inl rfl|exact .inr ⟨rfl,rfl⟩))) <;> fail)|fail):P:=h
theorem ES (h:P:=by first|((focus (first|((rw[<- ia,show hy [] r=[r] from rfl,ix];rfl))|exact nL)) <;> fail)|fail):P:=h
theorem ft (h:P:=by first|((focus (first|rfl|(simp only[tn,Option.getD_none,bY];omega))) <;> fail)|fail):P:=h
theorem Oe (h:P:=by first|((refine ⟨au,fun h=>?_⟩;rw[VL au] at h;rcases h with h|h;exact hn h;omega) <;> fail)|fail):P:=h
theorem tA (h:P:=by first|((focus (first|(rw[jx];simp only[ix,lS];rfl)|exact nL)) <;> fail)|fail):P:=h
theorem HK (h:P:=by first|((focus (show some (V.lit (Value.bool c.fj))=some (V.lit (Value.bool false));rw[e7])) <;> fail)|fail):P:=h
theorem Cf (h:P:=by first|((focus (first|((rw[LP,<- lS];exact ix.symm))|exact nL)) <;> fail)|fail):P:=h
theorem OB (h:P:=by first|((exact⟨au,by rw[Dy];exact hm,by rw[e1];exact hK,OA,Dv _⟩) <;> fail)|fail):P:=h
theorem Ek (h:P:=by first|((focus ((conv=>lhs;rhs;whnf);simp only[eb,fg];omega)) <;> fail)|fail):P:=h
theorem Ls (h:P:=by first|((unfold rL one;dsimp only;refine ⟨by omega,by simp,by simp,by simp,by simp⟩) <;> fail)|fail):P:=h
theorem Nj (h:P:=by first|((simp only[reduceCtorEq,true_iff,false_iff,iff_true,iff_false] at hr ⊢;omega) <;> fail)|fail):P:=h
theorem Da (h:P:=by first|((focus (first|(rw[HS,zh,al b6,ix];rfl)|exact nL)) <;> fail)|fail):P:=h
theorem H0 (h:P:=by first|(((simp only[eE,eb,fg];omega)) <;> fail)|fail):P:=h
theorem ER (h:P:=by first|((focus (first|((rw[ix (l₁:=out++[r])];rfl))|exact nL)) <;> fail)|fail):P:=h
theorem B4 (h:P:=by first|((focus ((rw[cR];exact B5 aC n ⟨aZ,cx,rd,b8,fm,S⟩))) <;> fail)|fail):P:=h
theorem DA (h:P:=by first|((focus ((rw[cR];exact B5 a8 k ⟨aZ,G,rd,false,fm,out⟩))) <;> fail)|fail):P:=h
theorem zv (h:P:=by first|((first|exact Ae|exact Af|exact Ag|exact Ah|rfl) <;> fail)|fail):P:=h
theorem jT (h:P:=by first|((focus (first|with_reducible rfl|assumption|(simp;done))) <;> fail)|fail):P:=h
theorem El (h:P:=by first|((focus (simp only[eb,fg];omega)) <;> fail)|fail):P:=h
theorem pV (h:P:=by first|((focus (first|(rw[a7,ix];rfl)|exact nL)) <;> fail)|fail):P:=h
theorem pW (h:P:=by first|((focus (first|(rw[aI,ix];rfl)|exact nL)) <;> fail)|fail):P:=h
theorem En (h:P:=by first|((focus (first|(rw[cC,ix];rfl)|exact nL)) <;> fail)|fail):P:=h
theorem Eh (h:P:=by first|((focus (first|((rw[ix];rfl))|exact nL)) <;> fail)|fail):P:=h
theorem zw (h:P:=by first|((simp only[eb,fg];omega) <;> fail)|fail):P:=h
theorem xF (h:P:=by first|((first|omega|(simp only[bY];omega)) <;> fail)|fail):P:=h
theorem Dp (h:P:=by first|((focus (first|(rw[ix])|exact nL)) <;> fail)|fail):P:=h
theorem E2 (h:P:=by first|((focus (first|(rw[l4];simp;rfl)|exact nL)) <;> fail)|fail):P:=h
theorem CW (h:P:=by first|((rw[<- eI];exact List.mem_map.2 ⟨e,he,rfl⟩) <;> fail)|fail):P:=h
theorem E1 (h:P:=by first|((focus (first|(rw[l4];rfl)|exact nL)) <;> fail)|fail):P:=h
theorem E8 (h:P:=by first|((rw[<- ht];simp[fe,lZ];omega) <;> fail)|fail):P:=h
theorem tV (h:P:=by first|((focus (subst e;(first|exact nL))) <;> fail)|fail):P:=h
theorem B0 (h:P:=by first|((focus (rw[List.map_replicate];rfl)) <;> fail)|fail):P:=h
theorem wE (h:P:=by first|(((try dsimp only);(exact ba)) <;> fail)|fail):P:=h
theorem s6 (h:P:=by first|((focus (first|(rfl)|exact nL)) <;> fail)|fail):P:=h
theorem yn (h:P:=by first|((rw[e1];exact h) <;> fail)|fail):P:=h
theorem uh (h:P:=by first|((focus (rw[EM];exact xU)) <;> fail)|fail):P:=h
theorem ui (h:P:=by first|((focus (rw[fu];exact EN)) <;> fail)|fail):P:=h
theorem ug (h:P:=by first|((focus (rw[cR];exact xT)) <;> fail)|fail):P:=h
theorem qN (h:P:=by first|((unfold maxLen;omega) <;> fail)|fail):P:=h
theorem o7 (h:P:=by first|((rw[hd];exact aN) <;> fail)|fail):P:=h
theorem b4 (h:P:=by first|((dsimp only;omega) <;> fail)|fail):P:=h
theorem fP (h:P:=by first|(((exact ba)) <;> fail)|fail):P:=h
theorem kY (h:P:=by first|((simpa using ad) <;> fail)|fail):P:=h
theorem bR (h:P:=by first|((kernel_rfl) <;> fail)|fail):P:=h
theorem cu (h:P:=by first|((assumption) <;> fail)|fail):P:=h
end Go.Proofs.YtendheafcbickaaGreat
