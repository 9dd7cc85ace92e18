
import Derived.Test.YtendheafcbickaaGreatRows
set_option linter.unusedVariables false
set_option linter.unusedSimpArgs false
namespace Go.Proofs.YtendheafcbickaaGreat
theorem gY {P:Prop} (h:P:=by first|((first|with_reducible rfl|with_reducible exact List.nil_append _|with_reducible exact(List.map_append ..).symm|(rw[hy (by assumption),List.map_append];rfl)|(rw[List.map_append];rfl)|(simp;done)) <;> fail)|fail):P:=h
theorem Ii {P:Prop} (h:P:=by first|((focus ((exact P7 P8.1 P9 (by unfold oE;(repeat' split) <;> omega) (by first|((obtain rfl:j=2:=by omega);rfl)|((obtain rfl:j=4:=by omega);rfl)|((obtain rfl:j=8:=by omega);rfl))))) <;> fail)|fail):P:=h
theorem Ia {P:Prop} (h:P:=by first|((focus (exact⟨by dsimp only;omega,fY,s1,by dsimp only;rw[s2];exact eI,by dsimp only;omega,by dsimp only;rw[List.length_append,List.length_singleton];omega,by dsimp only;rw[ei];exact b1⟩)) <;> fail)|fail):P:=h
theorem G3 {P:Prop} (h:P:=by first|((focus (have aj:b9 (l.getD k default):=(by assumption);unfold b9 at aj;refine ⟨aJ,⟨fun h=>(hd.1 (hi.1 h)).2.2,fun h=>hi.2 (hd.2 ⟨by assumption,?_,h⟩)⟩,?_,?_⟩ <;> omega)) <;> fail)|fail):P:=h
theorem Ij {P:Prop} (h:P:=by first|((focus (refine ⟨aJ,(fun h=>by cases h),fun h=>?_⟩;obtain ⟨aT,a1,bz,cW,gA,Cz,vG,y7⟩:=hq.1 (gn.1 h.2).2;first|(exfalso;omega)|exact absurd (by assumption) vG)) <;> fail)|fail):P:=h
theorem zR {P:Prop} (h:P:=by first|((focus (first|((exact congrArg (fun x=>List.map aC [UInt8.ofNat (n / 256 ^ 3),UInt8.ofNat (n / 256 ^ 2),UInt8.ofNat (n / 256 ^ 1)]++[x]) (pd n 0 (by omega))))|exact gY)) <;> fail)|fail):P:=h
theorem Ib {P:Prop} (h:P:=by first|((focus (exact⟨aJ,a2,by dsimp only;rw[a3];exact eI,by dsimp only;omega,by dsimp only;omega,by dsimp only;rw[List.length_append,List.length_singleton];omega,aV⟩)) <;> fail)|fail):P:=h
theorem zS {P:Prop} (h:P:=by first|((first|exact uv|exact uw|exact ux|exact uy|rfl|exact Dw (by omega)|exact Dx (by omega)|exact(Int.toNat_of_nonneg (by omega)).symm) <;> fail)|fail):P:=h
theorem Ik {P:Prop} (h:P:=by first|((focus (exact⟨aJ,fun _=>⟨hh,gn.2 ⟨bj,hq.2 ⟨by omega,by omega,by omega,by omega,by omega,by omega,by assumption,by omega⟩⟩⟩,fun _=>rfl⟩)) <;> fail)|fail):P:=h
theorem zT {P:Prop} (h:P:=by first|((focus (first|((exact congrArg (fun x=>List.map aC [UInt8.ofNat (n / 256 ^ 2),UInt8.ofNat (n / 256 ^ 1)]++[x]) (pd n 0 (by omega))))|exact gY)) <;> fail)|fail):P:=h
theorem zU {P:Prop} (h:P:=by first|((focus (first|((exact congrArg (fun x=>List.map aC [UInt8.ofNat (n / 256 ^ 3),UInt8.ofNat (n / 256 ^ 2)]++[x]) (pd n 1 (by omega))))|exact gY)) <;> fail)|fail):P:=h
theorem bP {P:Prop} (h:P:=by first|((focus (first|omega|(simp only[List.length_append,List.length_map,List.length_cons,List.length_nil,List.length_take,List.length_drop];omega))) <;> fail)|fail):P:=h
theorem an {P:Prop} (h:P:=by first|((focus ((conv=>lhs;rhs;whnf);simp only[List.length_map,List.length_append,List.length_cons,List.length_nil,List.length_take];omega)) <;> fail)|fail):P:=h
theorem hQ {P:Prop} (h:P:=by first|((focus (first|omega|(simp only[List.length_map,List.length_append,List.length_take,List.length_drop,List.length_replicate];omega))) <;> fail)|fail):P:=h
theorem Il {P:Prop} (h:P:=by first|((focus (exact⟨Im,wh aa hf.1 hf.2,Io,by(rw[List.length_append,List.length_singleton];omega),by(dsimp only;omega)⟩)) <;> fail)|fail):P:=h
theorem Ip {P:Prop} (h:P:=by first|((focus (exact⟨aJ,fun i hi=>by rcases Nat.lt_or_ge i k with h|h;exact ft i h;(obtain rfl:i=k:=by omega);exact he⟩)) <;> fail)|fail):P:=h
theorem zV {P:Prop} (h:P:=by first|((focus (first|((exact congrArg (fun x=>List.map aC [UInt8.ofNat (n / 256 ^ 1)]++[x]) (pd n 0 (by omega))))|exact gY)) <;> fail)|fail):P:=h
theorem zW {P:Prop} (h:P:=by first|((focus (first|((exact congrArg (fun x=>List.map aC [UInt8.ofNat (n / 256 ^ 2)]++[x]) (pd n 1 (by omega))))|exact gY)) <;> fail)|fail):P:=h
theorem zX {P:Prop} (h:P:=by first|((focus (first|((exact congrArg (fun x=>List.map aC [UInt8.ofNat (n / 256 ^ 3)]++[x]) (pd n 2 (by omega))))|exact gY)) <;> fail)|fail):P:=h
theorem Ic {P:Prop} (h:P:=by first|((focus (exact⟨aJ,a2,by dsimp only;rw[a3];exact eI,by dsimp only;omega,by dsimp only;omega,by dsimp only;omega,aV⟩)) <;> fail)|fail):P:=h
theorem CE {P:Prop} (h:P:=by first|((focus ((conv=>lhs;rhs;whnf);simp only[List.length_map,List.length_reverse,List.length_cons,List.length_nil];omega)) <;> fail)|fail):P:=h
theorem Iq {P:Prop} (h:P:=by first|((focus (refine ⟨(by dsimp only;omega),(fun _=>zH (by rw[<- ht,if_neg (by omega)];rfl)),fun h=>by cases h⟩)) <;> fail)|fail):P:=h
theorem zQ {P:Prop} (h:P:=by first|((focus (first|(rw[wg,Ih,mN,if_pos aX,<- List.append_assoc,List.map_append (l₂:=[_])];rfl)|exact gY)) <;> fail)|fail):P:=h
theorem ao {P:Prop} (h:P:=by first|((focus (simp only[List.length_map,List.length_append,List.length_cons,List.length_nil,List.length_take];omega)) <;> fail)|fail):P:=h
theorem pR {P:Prop} (h:P:=by first|((focus (exact⟨aJ,(fun h=>by cases h),fun h=>(by have J:=(ap.1 h.2).2;(try dsimp only at J);omega)⟩)) <;> fail)|fail):P:=h
theorem Ir {P:Prop} (h:P:=by first|((first|omega|(simp only[List.length_map,List.length_append,List.length_cons,List.length_nil];omega)) <;> fail)|fail):P:=h
theorem Dy {P:Prop} (h:P:=by first|((focus (exact⟨aJ,(fun h=>by cases h),fun h=>(by have av:=(ap.1 h.2).2.2.2;rw[hb] at av;cases av)⟩)) <;> fail)|fail):P:=h
theorem GN {P:Prop} (h:P:=by first|((focus (first|exact Nat.le_of_ble_eq_true rfl|((conv=>lhs;lhs;whnf);simp only[Nat.one_mul];omega))) <;> fail)|fail):P:=h
theorem Dk {P:Prop} (h:P:=by first|((focus (refine ⟨aJ,(fun h=>by cases h),fun h=>?_⟩;have:=hq.1 (gn.1 h.2).2;exfalso;omega)) <;> fail)|fail):P:=h
theorem al {P:Prop} (h:P:=by first|((focus (first|exact Qa|exact CD rfl|exact Qb rfl rfl|exact Is (fun _=>rfl))) <;> fail)|fail):P:=h
theorem It {P:Prop} (h:P:=by first|((focus (exact⟨aJ,fun _=>⟨hh,gn.2 ⟨bj,hq.2 ⟨by omega,by omega,by omega⟩⟩⟩,fun _=>rfl⟩)) <;> fail)|fail):P:=h
theorem zY {P:Prop} (h:P:=by first|((focus (first|((exact congrArg (fun x=>List.map aC []++[x]) (pd n 0 (by omega))))|exact gY)) <;> fail)|fail):P:=h
theorem zZ {P:Prop} (h:P:=by first|((focus (first|((exact congrArg (fun x=>List.map aC []++[x]) (pd n 1 (by omega))))|exact gY)) <;> fail)|fail):P:=h
theorem z1 {P:Prop} (h:P:=by first|((focus (first|((exact congrArg (fun x=>List.map aC []++[x]) (pd n 2 (by omega))))|exact gY)) <;> fail)|fail):P:=h
theorem z6 {P:Prop} (h:P:=by first|((focus (first|((exact congrArg (fun x=>List.map aC []++[x]) (pd n 3 (by omega))))|exact gY)) <;> fail)|fail):P:=h
theorem Iu {P:Prop} (h:P:=by first|((focus (exact⟨aJ,fun _=>⟨hlen,zE aJ (by omega) ht (by assumption)⟩,fun h=>by cases h⟩)) <;> fail)|fail):P:=h
theorem CF {P:Prop} (h:P:=by first|((focus (simp only[List.length_map,List.length_reverse,List.length_cons,List.length_nil];omega)) <;> fail)|fail):P:=h
theorem H3 {P:Prop} (h:P:=by first|((focus (refine ⟨aJ,fun h=>?_⟩;rw[PK aJ] at h;rcases h with h|h;exact hn h;omega)) <;> fail)|fail):P:=h
theorem z7 {P:Prop} (h:P:=by first|((focus (first|((rw[<- ft,show hL [] r=[r] from rfl,List.map_append];rfl))|exact gY)) <;> fail)|fail):P:=h
theorem rq {P:Prop} (h:P:=by first|((focus (exact⟨by decide,(fun h=>by cases h),fun h=>absurd (ap.1 h.2).2 (by assumption)⟩)) <;> fail)|fail):P:=h
theorem cw {P:Prop} (h:P:=by first|((focus (first|rfl|(simp only[Option.getD_some,Option.getD_none,List.length_map];omega))) <;> fail)|fail):P:=h
theorem Dz {P:Prop} (h:P:=by first|((focus (exact⟨aJ,fun _=>⟨hh,ap.2 ⟨bj,(by omega),(by assumption),hb⟩⟩,fun _=>rfl⟩)) <;> fail)|fail):P:=h
theorem Iv {P:Prop} (h:P:=by first|((focus (exact⟨aJ,(fun h=>by cases h),fun h=>absurd (ap.1 h.2).2.2.1 (by assumption)⟩)) <;> fail)|fail):P:=h
theorem n2 {P:Prop} (h:P:=by first|((focus (first|(rw[mN];simp only[List.map_append,List.append_assoc];rfl)|exact gY)) <;> fail)|fail):P:=h
theorem zG {P:Prop} (h:P:=by first|((focus (exact⟨aJ,(fun h=>by cases h),fun h=>absurd ⟨h.1,(gn.1 h.2).1⟩ hi⟩)) <;> fail)|fail):P:=h
theorem Iw {P:Prop} (h:P:=by first|((simpa using Qc (st:=⟨env,heap,next,ad⟩) (G:=[]) aa hm hh rfl U I J ag bh) <;> fail)|fail):P:=h
theorem z8 {P:Prop} (h:P:=by first|((focus (first|((rw[Ix,<- List.append_assoc];exact List.map_append.symm))|exact gY)) <;> fail)|fail):P:=h
theorem Hx {P:Prop} (h:P:=by first|((focus (simp only[reduceCtorEq,true_iff,false_iff,iff_true,iff_false] at hr ⊢;omega)) <;> fail)|fail):P:=h
theorem Aa {P:Prop} (h:P:=by first|((focus (first|(rw[e,<- List.append_assoc,List.map_append (l₁:=p++_)])|exact gY)) <;> fail)|fail):P:=h
theorem rr {P:Prop} (h:P:=by first|((focus (exact⟨by decide,(fun h=>by cases h),fun h=>absurd ⟨h.1,(ap.1 h.2).1⟩ hi⟩)) <;> fail)|fail):P:=h
theorem Iy {P:Prop} (h:P:=by first|((focus (exact⟨aJ,fun h=>(by cases h),fun _=>Di (k:=k) (by assumption)⟩)) <;> fail)|fail):P:=h
theorem sk {P:Prop} (h:P:=by first|((focus (exact⟨aJ,(fun h=>by cases h),fun h=>absurd ⟨h.1,(ap.1 h.2).1⟩ hi⟩)) <;> fail)|fail):P:=h
theorem rs {P:Prop} (h:P:=by first|((focus (exact⟨by decide,fun _=>⟨hh,ap.2 ⟨bj,by assumption⟩⟩,fun _=>rfl⟩)) <;> fail)|fail):P:=h
theorem zP {P:Prop} (h:P:=by first|((focus (first|(rw[Dv,wg,if_pos aK,List.map_append];rfl)|exact gY)) <;> fail)|fail):P:=h
theorem Ab {P:Prop} (h:P:=by first|((focus (first|((rw[List.map_append (l₁:=out++[r])];rfl))|exact gY)) <;> fail)|fail):P:=h
theorem Cq {P:Prop} (h:P:=by first|((focus (exact⟨aJ,fun _=>⟨hh,ap.2 ⟨bj,by assumption⟩⟩,fun _=>rfl⟩)) <;> fail)|fail):P:=h
theorem Ac {P:Prop} (h:P:=by first|((focus (first|(rw[Iz me ah,List.map_append];rfl)|exact gY)) <;> fail)|fail):P:=h
theorem Cp {P:Prop} (h:P:=by first|((focus (exact⟨aJ,fun _=>⟨hh,ap.2 ⟨bj,by omega⟩⟩,fun _=>rfl⟩)) <;> fail)|fail):P:=h
theorem Ad {P:Prop} (h:P:=by first|((unfold iF;rw[hb];first|omega|(simp;done)|(simp;omega)) <;> fail)|fail):P:=h
theorem ew {P:Prop} (h:P:=by first|((first|exact uv|exact uw|exact ux|exact uy|rfl) <;> fail)|fail):P:=h
theorem yV {P:Prop} (h:P:=by first|((focus (first|(rw[List.map_append (l₂:=f.Data)])|exact gY)) <;> fail)|fail):P:=h
theorem ru {P:Prop} (h:P:=by first|((focus (first|(rw[List.map_append (l₂:=tok)])|exact gY)) <;> fail)|fail):P:=h
theorem e4 {P:Prop} (h:P:=by first|((focus (first|with_reducible rfl|assumption|(simp;done))) <;> fail)|fail):P:=h
theorem q7 {P:Prop} (h:P:=by first|((focus (first|(rw[aN,List.map_append];rfl)|exact gY)) <;> fail)|fail):P:=h
theorem q8 {P:Prop} (h:P:=by first|((focus (first|(rw[aH,List.map_append];rfl)|exact gY)) <;> fail)|fail):P:=h
theorem vD {P:Prop} (h:P:=by first|((focus (exact⟨(fun h=>by cases h),fun h=>(by omega)⟩)) <;> fail)|fail):P:=h
theorem hU {P:Prop} (h:P:=by first|((focus (first|((rw[List.map_append];rfl))|exact gY)) <;> fail)|fail):P:=h
theorem ey {P:Prop} (h:P:=by first|((simp only[List.length_cons,List.length_nil];omega) <;> fail)|fail):P:=h
theorem uz {P:Prop} (h:P:=by first|((first|omega|(simp only[List.length_map];omega)) <;> fail)|fail):P:=h
theorem yU {P:Prop} (h:P:=by first|((rw[List.take_zero,List.append_nil];(exact ax)) <;> fail)|fail):P:=h
theorem Ae {P:Prop} (h:P:=by first|((focus ((rw[je aW aJ,List.map_set];rfl))) <;> fail)|fail):P:=h
theorem DA {P:Prop} (h:P:=by first|((focus (exact⟨by omega,by omega,by omega,by omega⟩)) <;> fail)|fail):P:=h
theorem Af {P:Prop} (h:P:=by first|((focus (first|(rw[e,List.map_append])|exact gY)) <;> fail)|fail):P:=h
theorem nW {P:Prop} (h:P:=by first|((focus (first|((rw[List.map_append]))|exact gY)) <;> fail)|fail):P:=h
theorem nV {P:Prop} (h:P:=by first|((focus (first|(rw[List.map_append])|exact gY)) <;> fail)|fail):P:=h
theorem vC {P:Prop} (h:P:=by first|((focus (exact⟨fun _=>(by omega),fun _=>rfl⟩)) <;> fail)|fail):P:=h
theorem zr {P:Prop} (h:P:=by first|((focus (first|(rw[o6];simp;rfl)|exact gY)) <;> fail)|fail):P:=h
theorem DB {P:Prop} (h:P:=by first|((rw[<- eK];exact List.mem_map.2 ⟨e,he,rfl⟩) <;> fail)|fail):P:=h
theorem Ag {P:Prop} (h:P:=by first|((first|omega|(simp;done)|(simp;omega)) <;> fail)|fail):P:=h
theorem zq {P:Prop} (h:P:=by first|((focus (first|(rw[o6];rfl)|exact gY)) <;> fail)|fail):P:=h
theorem zJ {P:Prop} (h:P:=by first|((rw[<- ht];simp[jn,qb];omega) <;> fail)|fail):P:=h
theorem uA {P:Prop} (h:P:=by first|((first|omega|(dsimp only;omega)) <;> fail)|fail):P:=h
theorem ly {P:Prop} (h:P:=by first|((focus (first|(exact e)|exact gY)) <;> fail)|fail):P:=h
theorem q0 {P:Prop} (h:P:=by first|(((try dsimp only);(exact ax)) <;> fail)|fail):P:=h
theorem sN {P:Prop} (h:P:=by first|((unfold b9;dsimp only;omega) <;> fail)|fail):P:=h
theorem pe {P:Prop} (h:P:=by first|((focus (rw[e,List.append_assoc])) <;> fail)|fail):P:=h
theorem ri {P:Prop} (h:P:=by first|((focus (first|(rfl)|exact gY)) <;> fail)|fail):P:=h
theorem aM {P:Prop} (h:P:=by first|((focus (first|exact gY)) <;> fail)|fail):P:=h
theorem bV {P:Prop} (h:P:=by first|((focus (dsimp only;omega)) <;> fail)|fail):P:=h
theorem pf {P:Prop} (h:P:=by first|((unfold maxLen;omega) <;> fail)|fail):P:=h
theorem nz {P:Prop} (h:P:=by first|((rw[hd];exact aL) <;> fail)|fail):P:=h
theorem kU {P:Prop} (h:P:=by first|((dsimp only;omega) <;> fail)|fail):P:=h
theorem jD {P:Prop} (h:P:=by first|((simpa using ah) <;> fail)|fail):P:=h
theorem gI {P:Prop} (h:P:=by first|((focus (exact aJ)) <;> fail)|fail):P:=h
theorem gf {P:Prop} (h:P:=by first|(((exact ax)) <;> fail)|fail):P:=h
theorem jt {P:Prop} (h:P:=by first|((focus (trivial)) <;> fail)|fail):P:=h
theorem ae {P:Prop} (h:P:=by first|((kernel_rfl) <;> fail)|fail):P:=h
theorem ca {P:Prop} (h:P:=by first|((assumption) <;> fail)|fail):P:=h
theorem bN {P:Prop} (h:P:=by first|((focus (omega)) <;> fail)|fail):P:=h
end Go.Proofs.YtendheafcbickaaGreat
