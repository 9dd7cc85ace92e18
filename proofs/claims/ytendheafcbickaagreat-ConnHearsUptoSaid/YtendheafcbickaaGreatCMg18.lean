/-
  SEVERAL TEXTS IN ONE: each with its own comment.
-/
import Derived.Test.YtendheafcbickaaGreatCSndC
set_option linter.unusedVariables false
set_option linter.unusedSimpArgs false
set_option maxHeartbeats 16000000
namespace Go.Proofs.YtendheafcbickaaGreat
set_option maxRecDepth 100000
attribute [local irreducible] cE a6 bu GStep Fn cg bf
theorem Dc (l:List aK) (hw:∀ y,y ∈ l->fB y) (ao:l.length * 16<=140737488355312):Fn Tryz.prog 253 [.ro (l.map aB)] (I (gi l)):=by
 refine aH Tryz.func253 ?_;(try refine ay ?_;and_intros <;> intros);refine cv (fun k:Nat=>⟨[(0,.ro (l.map aB)),(6,.ro (l.map aB)),(7,I l.length),(8,I k),(3,I (js l k))],[],0,Tryz.f253.ntmps⟩)
  (fun k=>k<=l.length/\(eD (-2) l ↔ eD (js l k) (l.drop k)) /\ -2<=js l k/\js l k<=4611686018427387903) (fun k=>l.length - k) 0 ⟨cm _,by simp[js],by simp[js],by simp[js]⟩ dV ?_
 rintro k ⟨ag,hi,nN,k3⟩;by_cases au:k<l.length
 ·have hd:=Lf (a:=js l k) au;have p2:=hw _ (cc au);unfold fB aE at p2;have Sj:js l (k+1)=(l.getD k default).bz:=by unfold js;rw[ah (by omega),Nat.add_sub_cancel]
  (repeat' first|(refine h4 (x6 _) (ht:=?_) (hff:=?_) <;> intro _ <;> try (exfalso;omega))|(refine h5 (x6 _) (ht:=?_) (hff:=?_) <;> intro _ <;> try (exfalso;omega))|(refine ay ?_;(and_intros <;> intros))|fail)
  all_goals first
   | (refine bX (hr:=?_);unfold gi;rw[ah (fun h=>?_)];have:=hd.1 (hi.1 h);unfold b9 at *;omega)
   | (exact⟨k+1,(by omega),Lg,ba⟩)
 ·(try refine ay ?_;and_intros <;> intros)
  all_goals (refine bX (hr:=?_);unfold gi;rw[al (hi.2 (by rw[List.drop_eq_nil_of_le (by omega)];trivial))])
end Go.Proofs.YtendheafcbickaaGreat
namespace Go.Proofs.YtendheafcbickaaGreat.bT
open Go.RowKit
def fB (x:aK):Prop:=aE x.bE/\aE x.bz
theorem Dd (x:aK) (h:fB x):Proofs.YtendheafcbickaaGreat.fB x:=by
 unfold fB at h;unfold Proofs.YtendheafcbickaaGreat.fB;obtain ⟨ai,J⟩:=h;exact⟨ai,J⟩
def oe (x:hz):Prop:=aE x.Max/\aE x.bG
theorem De (x:hz) (h:oe x):Proofs.YtendheafcbickaaGreat.oe x:=by
 unfold oe at h;unfold Proofs.YtendheafcbickaaGreat.oe;obtain ⟨ai,J⟩:=h;exact⟨ai,J⟩
def h2 (x:gA):Prop:=aE x.bj/\aE x.dy/\aE x.c0/\aE x.Since
theorem NU (x:gA) (h:h2 x):Proofs.YtendheafcbickaaGreat.h2 x:=by
 unfold h2 at h;unfold Proofs.YtendheafcbickaaGreat.h2;obtain ⟨ai,J,aa,az⟩:=h;exact⟨ai,J,aa,az⟩
def nF (x:rm):Prop:=aE x.qG/\aE x.aR
def vd (x:ve):Prop:=x.Name.length<=1048576/\x.Value.length<=1048576
def iY (x:bA):Prop:=aE x.aP/\x.Data.length * 1<=1048576
theorem HU (x:bA) (h:iY x):Proofs.YtendheafcbickaaGreat.iY x:=by
 unfold iY at h;unfold Proofs.YtendheafcbickaaGreat.iY;obtain ⟨ai,J⟩:=h;exact⟨ai,(by have:=J;omega)⟩
def ga (x:dQ):Prop:=aE x.bQ/\x.aD.length * 32<=33554432/\(∀ y,y ∈ x.aD->iY y)/\aE x.c8/\aE x.bj
theorem Df (x:dQ) (h:ga x):Proofs.YtendheafcbickaaGreat.ga x:=by
 unfold ga at h;unfold Proofs.YtendheafcbickaaGreat.ga;obtain ⟨ai,J,aa,az,bk⟩:=h;exact⟨ai,(by have:=J;omega),(fun y aj=>HU y (aa y aj)),az,bk⟩
def hg (x:ee):Prop:=x.Data.length * 1<=1048576/\aE x.Next/\aE x.Max/\x.cO.length * 16<=16777216/\(∀ y,y ∈ x.cO->fB y)/\x.cI.length * 16<=16777216/\(∀ y,y ∈ x.cI->fB y)
theorem uF (x:ee) (h:hg x):Proofs.YtendheafcbickaaGreat.hg x:=by
 unfold hg at h;unfold Proofs.YtendheafcbickaaGreat.hg;obtain ⟨ai,J,aa,az,bk,dG,h9⟩:=h;exact⟨(by have:=ai;omega),J,aa,(by have:=az;omega),(fun y aj=>Dd y (bk y aj)),(by have:=dG;omega),(fun y aj=>Dd y (h9 y aj))⟩
def dx (x:bo):Prop:=aE x.Kind/\aE x.Id/\aE x.aP/\aE x.Code/\x.ec.length * 16<=16777216/\(∀ y,y ∈ x.ec->fB y)/\x.Data.length * 1<=1048576
theorem zi (x:bo) (h:dx x):Proofs.YtendheafcbickaaGreat.dx x:=by
 unfold dx at h;unfold Proofs.YtendheafcbickaaGreat.dx;obtain ⟨ai,J,aa,az,bk,dG,h9⟩:=h;exact⟨ai,J,aa,az,(by have:=bk;omega),(fun y aj=>Dd y (dG y aj)),(by have:=h9;omega)⟩
def HV (x:lQ):Prop:=aE x.Kind/\aE x.nO/\aE x.nP/\x.oz.length * 1<=1048576/\aE x.Number/\aE x.hG
def ji (x:eN):Prop:=aE x.Number/\aE x.Time/\aE x.hG/\x.Frames.length * 88<=92274688/\(∀ y,y ∈ x.Frames->dx y)
theorem Vh (x:eN) (h:ji x):Proofs.YtendheafcbickaaGreat.ji x:=by
 unfold ji at h;unfold Proofs.YtendheafcbickaaGreat.ji;obtain ⟨ai,J,aa,az,bk⟩:=h;exact⟨ai,J,aa,(by have:=az;omega),(fun y aj=>zi y (bk y aj))⟩
def gM (x:ey):Prop:=aE x.Next/\x.aR.length * 48<=50331648/\(∀ y,y ∈ x.aR->ji y)/\aE x.c9/\x.cD.length * 16<=16777216/\(∀ y,y ∈ x.cD->fB y)/\x.bI.length * 8<=8388608/\(∀ y,y ∈ x.bI->aE y)
theorem zj (x:ey) (h:gM x):Proofs.YtendheafcbickaaGreat.gM x:=by
 unfold gM at h;unfold Proofs.YtendheafcbickaaGreat.gM;obtain ⟨ai,J,aa,az,bk,dG,h9,oP⟩:=h;exact⟨ai,(by have:=J;omega),(fun y aj=>Vh y (aa y aj)),az,(by have:=bk;omega),(fun y aj=>Dd y (dG y aj)),(by have:=h9;omega),oP⟩
def Vi (x:Dg):Prop:=aE x.Room/\aE x.HW/\x.Rows.length * 32<=33554432/\(∀ y,y ∈ x.Rows->vd y)
def Vj (x:Dh):Prop:=x.qH.length * 32<=33554432/\(∀ y,y ∈ x.qH->vd y)/\x.Body.length * 1<=1048576
def Vk (x:Di):Prop:=x.aD.length * 1<=1048576/\x.qH.length * 32<=33554432/\(∀ y,y ∈ x.qH->vd y)/\x.Body.length * 1<=1048576
def jK (x:cS):Prop:=aE x.Id/\ga x.In/\x.Read.length * 1<=1048576/\hg x.Out
theorem Dj (x:cS) (h:jK x):Proofs.YtendheafcbickaaGreat.jK x:=by
 unfold jK at h;unfold Proofs.YtendheafcbickaaGreat.jK;obtain ⟨ai,J,aa,az⟩:=h;exact⟨ai,(Df _ J),(by have:=aa;omega),(uF _ az)⟩
def fw (x:aG):Prop:=gM x.aQ/\h2 x.cy/\oe x.di/\oe x.eh/\aE x.gQ/\aE x.gR/\aE x.cN/\x.aq.length * 192<=201326592/\(∀ y,y ∈ x.aq->jK y)/\x.Queue.length * 88<=92274688/\(∀ y,y ∈ x.Queue->dx y)/\aE x.dT/\aE x.gP/\aE x.Code
theorem qa (x:aG) (h:fw x):Proofs.YtendheafcbickaaGreat.fw x:=by
 unfold fw at h;unfold Proofs.YtendheafcbickaaGreat.fw;obtain ⟨ai,J,aa,az,bk,dG,h9,oP,nS,nC,se,pk,lx,qi⟩:=h;exact⟨(zj _ ai),(NU _ J),(De _ aa),(De _ az),bk,dG,h9,(by have:=oP;omega),(fun y aj=>Dj y (nS y aj)),(by have:=nC;omega),(fun y aj=>zi y (se y aj)),pk,lx,qi⟩
def vf (x:tB):Prop:=aE x.Id/\aE x.nP/\aE x.l8/\og x.Key/\fw x.eR
def zk (x:vg):Prop:=og x.zl/\aE x.sn/\aE x.Next/\x.tC.length * 312<=327155712/\(∀ y,y ∈ x.tC->vf y)/\nF x.so/\nF x.sr/\nF x.ss/\nF x.su/\aE x.zm
def zn (x:vh):Prop:=aE x.l8/\x.Data.length * 1<=1048576
def xn (x:tD):Prop:=aE x.l8/\aE x.Id/\og x.tE/\x.oz.length * 1<=1048576/\aE x.nO/\og x.Key/\fw x.eR
def HX (x:xo):Prop:=aE x.Kind/\aE x.l8/\aE x.At/\aE x.N/\og x.tE/\x.Data.length * 1<=1048576
def zo (x:vi):Prop:=zn x.Dk
def Vl (x:Dl):Prop:=zk x.Gate/\x.zp.length * 336<=352321536/\(∀ y,y ∈ x.zp->xn y)/\x.Way.length * 40<=41943040/\(∀ y,y ∈ x.Way->zo y)/\aE x.sn
end Go.Proofs.YtendheafcbickaaGreat.bT
namespace Go.Proofs.YtendheafcbickaaGreat.W
open Go.RowKit
def iY (x:bA):Prop:=aE x.aP/\x.Data.length * 1<=16777216
theorem HU (x:bA) (h:W.iY x):Proofs.YtendheafcbickaaGreat.iY x:=by
 unfold W.iY at h;unfold Proofs.YtendheafcbickaaGreat.iY;obtain ⟨ai,J⟩:=h;exact⟨ai,(by have:=J;omega)⟩
theorem Vm (x:bA) (h:bT.iY x):W.iY x:=by
 unfold bT.iY at h;unfold W.iY;obtain ⟨ai,J⟩:=h;exact⟨ai,(by have:=J;omega)⟩
def ga (x:dQ):Prop:=aE x.bQ/\x.aD.length * 32<=33554432/\(∀ y,y ∈ x.aD->iY y)/\aE x.c8/\aE x.bj
theorem Df (x:dQ) (h:W.ga x):Proofs.YtendheafcbickaaGreat.ga x:=by
 unfold W.ga at h;unfold Proofs.YtendheafcbickaaGreat.ga;obtain ⟨ai,J,aa,az,bk⟩:=h;exact⟨ai,(by have:=J;omega),(fun y aj=>HU y (aa y aj)),az,bk⟩
theorem Vn (x:dQ) (h:bT.ga x):W.ga x:=by
 unfold bT.ga at h;unfold W.ga;obtain ⟨ai,J,aa,az,bk⟩:=h;exact⟨ai,(by have:=J;omega),(fun y aj=>Vm y (aa y aj)),az,bk⟩
def jK (x:cS):Prop:=aE x.Id/\ga x.In/\x.Read.length * 1<=1048576/\bT.hg x.Out
theorem Dj (x:cS) (h:W.jK x):Proofs.YtendheafcbickaaGreat.jK x:=by
 unfold W.jK at h;unfold Proofs.YtendheafcbickaaGreat.jK;obtain ⟨ai,J,aa,az⟩:=h;exact⟨ai,(Df _ J),(by have:=aa;omega),(bT.uF _ az)⟩
theorem Vo (x:cS) (h:bT.jK x):W.jK x:=by
 unfold bT.jK at h;unfold W.jK;obtain ⟨ai,J,aa,az⟩:=h;exact⟨ai,(Vn _ J),(by have:=aa;omega),(id az)⟩
def fw (x:aG):Prop:=bT.gM x.aQ/\bT.h2 x.cy/\bT.oe x.di/\bT.oe x.eh/\aE x.gQ/\aE x.gR/\aE x.cN/\x.aq.length * 192<=201326592/\(∀ y,y ∈ x.aq->jK y)/\x.Queue.length * 88<=92274688/\(∀ y,y ∈ x.Queue->bT.dx y)/\aE x.dT/\aE x.gP/\aE x.Code
theorem qa (x:aG) (h:W.fw x):Proofs.YtendheafcbickaaGreat.fw x:=by
 unfold W.fw at h;unfold Proofs.YtendheafcbickaaGreat.fw;obtain ⟨ai,J,aa,az,bk,dG,h9,oP,nS,nC,se,pk,lx,qi⟩:=h;exact⟨(bT.zj _ ai),(bT.NU _ J),(bT.De _ aa),(bT.De _ az),bk,dG,h9,(by have:=oP;omega),(fun y aj=>Dj y (nS y aj)),(by have:=nC;omega),(fun y aj=>bT.zi _ (se y aj)),pk,lx,qi⟩
theorem Vp (x:aG) (h:bT.fw x):W.fw x:=by
 unfold bT.fw at h;unfold W.fw;obtain ⟨ai,J,aa,az,bk,dG,h9,oP,nS,nC,se,pk,lx,qi⟩:=h;exact⟨(id ai),(id J),(id aa),(id az),bk,dG,h9,(by have:=oP;omega),(fun y aj=>Vo y (nS y aj)),(by have:=nC;omega),(fun y aj=>id (se y aj)),pk,lx,qi⟩
def vf (x:tB):Prop:=aE x.Id/\aE x.nP/\aE x.l8/\og x.Key/\fw x.eR
def zk (x:vg):Prop:=og x.zl/\aE x.sn/\aE x.Next/\x.tC.length * 312<=327155712/\(∀ y,y ∈ x.tC->vf y)/\bT.nF x.so/\bT.nF x.sr/\bT.nF x.ss/\bT.nF x.su/\aE x.zm
def xn (x:tD):Prop:=aE x.l8/\aE x.Id/\og x.tE/\x.oz.length * 1<=1048576/\aE x.nO/\og x.Key/\fw x.eR
end Go.Proofs.YtendheafcbickaaGreat.W
namespace Go.Proofs.YtendheafcbickaaGreat
set_option maxRecDepth 100000
attribute [local irreducible] cE a6 bu GStep Fn cg bf
theorem rp {n:Int}:∀ {l:List aK} {a:Int},eD a l->(tF n l ↔ ∀ x ∈ l,x.bz<n)
 | [],a,_=>⟨fun _ x U=>(by cases U),fun _ h=>absurd h (by simp)⟩
 | [x],a,_=>⟨fun h y aj=>(by rw[iX] at aj;subst aj;exact h (by simp)),fun h _=>h x (by simp)⟩
 | x :: y :: r,a,h=>by
  have bU:=rp (n:=n) (l:=y :: r) h.2.2;have aj:=iC h.2.2 y (by simp);unfold b9 at aj;have e:tF n (x :: y :: r) ↔ tF n (y :: r):=by
   unfold tF;simp only[eb,Nat.add_sub_cancel,List.getD_cons_succ];exact⟨fun q _=>q (by omega),fun q _=>q (by omega)⟩
  rw[e,bU];constructor
  ·intro q z aU;rcases hX.1 aU with rfl|aU
   ·have:=q y (by simp);omega
   ·exact q z aU
  ·intro q z aU;exact q z (ha _ aU)
theorem Vq {l:List aK} {Q:aK->Prop}:eu (fun i=>Q (l.getD i default)) l.length ↔ ∀ x ∈ l,Q x:=by
 constructor
 ·intro h x U;obtain ⟨i,hi,rfl⟩:=List.getElem_of_mem U;have:=h i hi;dsimp only at this;rwa [bZ,eB hi] at this
 ·intro h i hi;exact h _ (cc hi)
theorem Vr (s:ee):mM s ↔ (oh s/\eu (fun i=>((s.cO++s.cI).getD i default).bz<s.Next) (s.cO++s.cI).length)/\BG s.cO s.cI:=by
 have e:=Vq (l:=s.cO++s.cI) (Q:=fun x=>x.bz<s.Next);unfold mM;constructor
 ·rintro ⟨⟨⟨J,aa⟩,az⟩,bk⟩;refine ⟨⟨J,e.2 fun x U=>?_⟩,bk⟩;rcases gr.1 U with U|U
  ·exact(rp (qF J.2.2.2.2.2.1)).1 aa x U
  ·exact(rp (qF J.2.2.2.2.2.2.1)).1 az x U
 ·rintro ⟨⟨J,aa⟩,bk⟩;have aa:=e.1 aa;exact⟨⟨⟨J,(rp (qF J.2.2.2.2.2.1)).2 fun x U=>aa x (gr.2 (.inl U))⟩,(rp (qF J.2.2.2.2.2.2.1)).2 fun x U=>aa x (gr.2 (.inr U))⟩,bk⟩
def zq (s:ee):Prop:=s.Data.length<=600/\0<=s.Next/\s.Next<=s.Data.length/\s.Next<=s.Max/\s.Max<=4611686018427387903/\gi s.cO=0/\gi s.cI=0
theorem xp (s:ee):oh s ↔ zq s/\Dm s.Fin s.fo s.Over=true/\((s.fo || s.Over)=true->s.Next=s.Data.length):=by
 unfold oh zq;constructor
 ·rintro ⟨a,b,c,d,e,f,g,h,i⟩;exact⟨⟨a,b,c,d,e,f,g⟩,h,i⟩
 ·rintro ⟨⟨a,b,c,d,e,f,g⟩,h,i⟩;exact⟨a,b,c,d,e,f,g,h,i⟩
theorem Cc (s:ee) (hw:bT.hg s):Fn Tryz.prog 141 [.agg (fc s)] (I (lE s)):=by
 obtain ⟨c4,du,w3,e9,fa,gy,hL⟩:=bT.uF s hw;have Vs:=hw.2.2.2.1;have NV:=hw.2.2.2.2.2.1;clear hw;unfold aE at du w3;have J:=Dc s.cO fa (by omega);have aa:=Dc s.cI hL (by omega);have az:=Sh s.cO s.cI (by omega) (by omega);clear fa hL;refine aH Tryz.func141 ?_;refine gW ?_;refine nW ?_;(repeat' first|(refine q5 ?_;(and_intros <;> intros))|fail);refine nX ?_;refine je (fun ok:Bool=>⟨[(1,.ptr 0 0 0 0),(2,I 0),(3,ab ok)],[(0,some (.box 132 (fc s)))],1,Tryz.f141.ntmps⟩) (fun ok=>ok=true ↔ zq s) ?_ ?_
 ·unfold zq;(repeat' first|(refine h4 (hW _ _) (ht:=?_) (hff:=?_) <;> intro _ <;> try (exfalso;omega))|(refine h5 (hW _ _) (ht:=?_) (hff:=?_) <;> intro _ <;> try (exfalso;omega))|refine bh J ?_|refine bh aa ?_|(refine ay ?_;(and_intros <;> intros))|fail)
  all_goals first|exact F0|skip
 rintro ok bP;clear J aa;refine je (fun ok:Bool=>⟨[(1,.ptr 0 0 0 0),(2,I 0),(3,ab ok)],[(0,some (.box 132 (fc s)))],1,Tryz.f141.ntmps⟩) (fun ok=>ok=true ↔ oh s) ?_ ?_
 ·rw[xp]
  cases ok
  ·have hn:¬ zq s:=fun h=>by have:=bP.2 h;cases this
   clear bP;(try refine ay ?_;and_intros <;> intros)
   all_goals first
    | (exact⟨false,⟨(fun h=>by cases h),fun h=>absurd h.1 hn⟩,ba⟩)
    | skip
  ·have hn:=bP.1 rfl;clear bP;obtain ⟨data,fin,next,jy,lost,dO,hT,b8⟩:=s;dsimp only at *
   cases fin <;> cases hT <;> cases b8
   all_goals (try refine ay ?_;and_intros <;> intros)
   all_goals first
    | (exact⟨true,⟨fun _=>⟨hn,rfl,fun h=>(by first|omega|cases h)⟩,fun _=>rfl⟩,ba⟩)
    | (exact⟨false,(by exact⟨(fun h=>by cases h),fun h=>(by obtain ⟨_,Dn,zr⟩:=h;first|(cases Dn;done)|(exfalso;have zr:=zr rfl;dsimp only at *;omega))⟩),ba⟩)
    | skip
 clear ok bP;rintro ok bP;have hK:(s.cO++s.cI).length=s.cO.length+s.cI.length:=eE;have uH:=Vr s;(repeat' first|refine eP (s.cO.map aB) ?_|(refine NW (r:=(s.cO++s.cI).map aB) ?_ ?_ ?_ ?_ (h:=?_);(exact Dp);(exact dm);(exact dp);(exact dq))|(refine NX (r:=(s.cO++s.cI).map aB) ?_ ?_ ?_ ?_ (h:=?_);(exact Dp);(exact dm);(exact dp);(exact dq))|(refine NY (r:=(s.cO++s.cI).map aB) ?_ ?_ ?_ ?_ (h:=?_);(exact Dp);(exact dm);(exact dp);(exact dq))|(refine NZ (r:=(s.cO++s.cI).map aB) ?_ ?_ ?_ ?_ (h:=?_);(exact Dp);(exact dm);(exact dp);(exact dq))|(refine ay ?_;(and_intros <;> intros))|fail);generalize s.cO++s.cI=L at *;refine cv (fun x:Nat×Bool=>⟨[(1,.ptr 0 0 0 0),(2,I 0),(3,ab x.2),(79,.ro (L.map aB)),(80,I L.length),(81,I x.1)],[(0,some (.box 132 (fc s)))],1,Tryz.f141.ntmps⟩)
  (fun x=>x.1<=L.length/\(x.2=true ↔ oh s/\eu (fun i=>(L.getD i default).bz<s.Next) x.1)) (fun x=>L.length - x.1) (0,ok) ⟨cm _,by rw[bP];exact⟨fun h=>⟨h,lP⟩,fun h=>h.1⟩⟩ wE ?_
 rintro ⟨k,ok⟩ ⟨ag,hi⟩;dsimp only at ag hi ⊢;by_cases au:k<L.length
 ·have aw:=iQ (Q:=fun i=>(L.getD i default).bz<s.Next) (k:=k)
  cases ok
  ·have hi:¬ (oh s/\eu (fun i=>(L.getD i default).bz<s.Next) k):=fun h=>by have:=hi.2 h;cases this
   (try refine ay ?_;and_intros <;> intros)
   all_goals first|exact ys|skip
  ·obtain ⟨hh,br⟩:=hi.1 rfl;(try refine ay ?_;and_intros <;> intros)
   all_goals first|exact F3|skip
 ·have ca:k=L.length:=by omega
  subst ca
  cases ok
  ·rw[vj (fun h=>by have:=hi.2 (uH.1 h).1;cases this)];(try refine ay ?_;and_intros <;> intros)
   all_goals exact bX (hr:=rfl)
  ·have hi:=hi.1 rfl;by_cases br:BG s.cO s.cI
   ·rw[HY (uH.2 ⟨hi,br⟩)];rw[jM (fun h=>h br)] at az;(refine bH az ?_;and_intros <;> intros)
    all_goals exact bX (hr:=rfl)
   ·rw[vj (fun h=>br (uH.1 h).2)];rw[j6 br] at az;(refine bH az ?_;and_intros <;> intros)
    all_goals exact bX (hr:=rfl)
end Go.Proofs.YtendheafcbickaaGreat
