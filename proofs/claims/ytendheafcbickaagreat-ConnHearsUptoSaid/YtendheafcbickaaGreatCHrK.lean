
import Derived.Test.YtendheafcbickaaGreatCMg35
set_option linter.unusedVariables false
set_option linter.unusedSimpArgs false
namespace Go.Proofs.YtendheafcbickaaGreat
variable {B n:Nat} {C c:aG}
set_option maxRecDepth 100000
theorem Zn (g:dQ) (n:Int) (hw:ga g) (hn:aE n):ga (oO g n).1:=by
 have aU:ga ⟨0,[],0,0⟩:=by unfold ga aE;simp
 unfold oO;split
 ·exact aU
 ·split
  ·exact aU
  ·exact⟨hw.1,hw.2.1,hw.2.2.1,hw.2.2.2.1,by have:=hw.2.2.2.2;unfold aE at *;dsimp only;omega⟩
theorem Zo {g:dQ} {n:Int} (h:ev g=0) (hn:n<=4611686018427387903):ev (oO g n).1=0/\(oO g n).1.aD=g.aD/\(oO g n).1.bQ=g.bQ:=by
 obtain ⟨hh,b,hb,J,aa⟩:=pr h;unfold oO;rw[ah (by omega),ah (by omega)];refine ⟨?_,rfl,rfl⟩;have av:gj ⟨g.bQ,g.aD,g.c8,max g.bj n⟩:=by unfold gj at *;dsimp only;omega
 unfold ev;rw[al];refine ⟨av,?_⟩;show lZ ⟨g.bQ,g.aD,g.c8,max g.bj n⟩ (fe true g.bQ g.aD)=true;rw[hb];unfold lZ;simp;omega
theorem Zp (ad:c3 c) (h:cK B c) (hn:n<c.aq.length):oj B (kR c n):=by
 have dN:lz B (cV c n):=h.gK _ (cc hn);obtain ⟨p8,_⟩:=pr dN.2.2.1;unfold gj at p8;unfold kR;split
 ·obtain ⟨fF,a2,a3⟩:=Zo (n:=min ((cV c n).In.bQ+300) 4611686018427387903) dN.2.2.1 (by omega);have a4:=Zn (cV c n).In (min ((cV c n).In.bQ+300) 4611686018427387903) dN.2.1 (by unfold aE;omega);refine ⟨Et (xQ ad),by rcases Eu c.Queue (rh (cV c n).Id (ri (cV c n).In).bj) with e|e <;> (unfold aE;dsimp only;omega),fun _=>Bd (vG h hn rfl ?_) ?_⟩
  ·exact⟨dN.1,a4,fF,by show eL (oO _ _).1.aD<=B;rw[a2];exact dN.2.2.2.1,dN.2.2.2.2⟩
  ·unfold rh bT.dx;exact⟨by unfold aE;dsimp only;omega,dN.1,a4.2.2.2.2,by unfold aE;dsimp only;omega,by simp,(fun y aj=>by cases aj),by simp⟩
 ·exact⟨ad,by unfold aE;dsimp only;omega,fun _=>h⟩
theorem Zq (c:aG) (n:Nat):(kR c n).1.aq.length=c.aq.length:=by
 unfold kR;split
 ·show(c.aq.set n _).length=_;rw[e1]
 ·rfl
theorem QJ {B:Nat}:∀ (m k:Nat) {c:aG},c3 c->cK B c->k+m<=c.aq.length->oj B (hV m k c)
 | 0,k,c,ad,h,_=>⟨ad,by unfold hV aE;dsimp only;omega,fun _=>h⟩
 | m+1,k,c,ad,h,ag=>by
  obtain ⟨fF,a2,a3⟩:=Zp (n:=k) ad h (by omega);unfold hV;split
  ·rename_i ai;exact QJ m (k+1) fF (a3 ai) (by rw[Zq];omega)
  ·rename_i ai;exact⟨fF,a2,a3⟩
theorem HN (ad:c3 c) (h:cK B c):oj B (lb c):=by
 obtain ⟨fF,a2,a3⟩:=QJ c.aq.length 0 ad h (by omega);unfold lb;split
 ·rename_i ai;have a3:=a3 ai;split
  ·obtain ⟨g1,g2⟩:=Qf (hV c.aq.length 0 c).1.di (min ((hV c.aq.length 0 c).1.di.bG+700) 4611686018427387903);have g1:gT (qu (hV c.aq.length 0 c).1.di):=g1;refine ⟨Et (Be fF g1),by rcases Eu (hV c.aq.length 0 c).1.Queue (sa (qu (hV c.aq.length 0 c).1.di).Max) with e|e <;> (unfold aE;dsimp only;omega),fun _=>Bd (Jo a3) ?_⟩;unfold gT at g1;unfold sa bT.dx;exact⟨by unfold aE;dsimp only;omega,by unfold aE;dsimp only;omega,by unfold aE;dsimp only;omega,by unfold aE;dsimp only;omega,by simp,(fun y aj=>by cases aj),by simp⟩
  ·exact⟨fF,by unfold aE;dsimp only;omega,fun _=>a3⟩
 ·exact⟨fF,a2,a3⟩
def ig (c C:aG):Prop:=c.aq.length<=C.aq.length/\(∀ i,i<c.aq.length->(C.aq.getD i default).Id=(c.aq.getD i default).Id/\(C.aq.getD i default).Read=(c.aq.getD i default).Read)
 /\ (∀ i,c.aq.length<=i->i<C.aq.length->c.cN<=(C.aq.getD i default).Id/\(C.aq.getD i default).Read=[])/\c.cN<=C.cN
theorem pc (h:C.aq=c.aq) (ae:C.cN=c.cN):ig c C:=⟨by rw[h];omega,fun i _=>by rw[h];exact⟨rfl,rfl⟩,fun i J aa=>by rw[h] at aa;omega,by omega⟩
theorem kE (c:aG):ig c c:=pc rfl rfl
theorem ig.trans {a b:aG} (J:ig a b) (aa:ig b c):ig a c:=by
 obtain ⟨dg,db,gq,ka⟩:=J;obtain ⟨aL,aS,bi,cq⟩:=aa;refine ⟨by omega,fun i hi=>?_,fun i J aa=>?_,by omega⟩
 ·have fF:=db i hi;have a2:=aS i (by omega);exact⟨a2.1.trans fF.1,a2.2.trans fF.2⟩
 ·by_cases hb:i<b.aq.length
  ·have fF:=gq i J hb;have a2:=aS i hb;exact⟨by rw[a2.1];exact fF.1,a2.2.trans fF.2⟩
  ·have a2:=bi i (by omega) aa;exact⟨by omega,a2.2⟩
theorem xV {y:cS} (cw:C.aq=c.aq.set n y) (ae:C.cN=c.cN) (aj:n<c.aq.length->y.Id=(c.aq.getD n default).Id/\y.Read=(c.aq.getD n default).Read):ig c C:=by
 refine ⟨by rw[cw,e1];omega,fun i hi=>?_,fun i J aa=>by rw[cw,e1] at aa;omega,by omega⟩;rw[cw,bZ,nU];by_cases e:n=i
 ·subst e;rw[al rfl,al hi];exact aj hi
 ·rw[ah e,<- bZ];exact⟨rfl,rfl⟩
theorem Zr (c:aG):ig c (kJ c):=by
 unfold kJ;refine ⟨by simp,fun i hi=>?_,fun i J aa=>?_,by dsimp only;omega⟩
 ·dsimp only;rw[bZ,sh hi,<- bZ];exact⟨rfl,rfl⟩
 ·simp at aa;have e:i=c.aq.length:=by omega
  subst e;dsimp only;rw[bZ,sg (e4 _),ra];exact⟨Int.le_refl _,rfl⟩
theorem QK {id:Int}:∀ (m:Nat) (c:aG),ig c (lh m c id).1
 | 0,c=>kE c
 | m+1,c=>by
  unfold lh;split
  ·exact(Zr c).trans (QK m _)
  ·exact kE c
theorem Cl (c:aG) (id:Int):ig c (eV c id).1:=by
 unfold eV;split
 ·exact kE c
 ·split
  ·exact kE c
  ·exact QK _ c
theorem Zs (c:aG) (n:Nat) (f:bo):ig c (oD c n f).1:=by
 unfold oD;split
 ·exact kE c
 ·split
  ·exact kE c
  ·split
   ·exact kE c
   ·split
    ·exact kE c
    ·split
     ·exact pc rfl rfl
     ·exact xV rfl rfl (fun _=>⟨rfl,rfl⟩)
theorem Zt (c:aG) (n:Nat) (f:bo):ig c (p4 c n f).1:=by
 unfold p4;split
 ·exact kE c
 ·exact xV rfl rfl (fun _=>⟨rfl,rfl⟩)
theorem Zu (c:aG) (n:Nat) (f:bo):ig c (p7 c n f).1:=by
 unfold p7;split
 ·exact xV rfl rfl (fun _=>⟨rfl,rfl⟩)
 ·exact kE c
theorem Ku {g:aG->Nat->bo->aG×Int} {f:bo} (av:∀ c n,ig c (g c n f).1):ig c (iU g c f).1:=by
 unfold iU;split
 ·split
  ·exact(Cl c f.Id).trans (av _ _)
  ·exact Cl c f.Id
 ·exact Cl c f.Id
theorem Zv (c:aG) (f:bo):ig c (ml c (iV c f).1 (iV c f).2.1):=by
 unfold iV;split
 ·split
  ·split
   ·exact xV rfl rfl (fun _=>⟨rfl,rfl⟩)
   ·exact pc rfl rfl
  ·exact pc rfl rfl
 ·split
  ·exact pc rfl rfl
  ·exact pc rfl rfl
theorem Kv:∀ (l:List bo) (c:aG),ig c (j7 c l).1
 | [],c=>kE c
 | f :: l,c=>by
  unfold j7;split
  ·exact(Zv c f).trans (Kv l _)
  ·exact kE c
theorem QL {now:Int}:∀ (l:List eN) (c:aG),ig c (jN now c l).1
 | [],c=>kE c
 | p :: l,c=>by
  have J:ig c (kL c (rT c p now)):=pc rfl rfl;unfold jN;split
  ·exact(J.trans (Kv _ _)).trans (QL l _)
  ·exact J.trans (Kv _ _)
theorem QM (c:aG) (x:bo):ig c (ny c x).1:=by
 unfold ny;split
 ·split
  ·exact xV rfl rfl (fun _=>⟨rfl,rfl⟩)
  ·exact kE c
 ·exact kE c
theorem Kw:∀ (l:List bo) (c:aG),ig c (kv c l).1
 | [],c=>kE c
 | f :: l,c=>by
  unfold kv;split
  ·exact(QM c f).trans (Kw l _)
  ·exact QM c f
theorem Kx:∀ (l:List eN) (c:aG),ig c (kQ c l).1
 | [],c=>kE c
 | p :: l,c=>by
  have J:ig c (kL c (r9 c p)):=pc rfl rfl;unfold kQ;split
  ·exact(J.trans (Kw _ _)).trans (Kx l _)
  ·exact J.trans (Kw _ _)
theorem Zw (c:aG) (f:bo) (now:Int):ig c (qt c f now).1:=by
 have J:ig c (iy c (fr c.aQ f.ec).1):=pc rfl rfl;unfold qt;split
 ·split
  ·exact(J.trans (Kx _ _)).trans (QL _ _)
  ·exact J.trans (Kx _ _)
 ·exact kE c
theorem V9 (c:aG) (f:bo) (now:Int) (nS:f.Kind≠8) (Zx:f.Kind≠28):ig c (gY c f now).1:=by
 unfold gY;rw[ah nS];by_cases de:f.Kind=2
 ·rw[al de];exact Zw c f now
 rw[ah de];by_cases jI:f.Kind=4
 ·rw[al jI];exact Ku (fun c n=>Zs c n f)
 rw[ah jI];by_cases mC:f.Kind=5
 ·rw[al mC];exact Ku (fun c n=>Zt c n f)
 rw[ah mC];by_cases sb:f.Kind=16
 ·rw[al sb];exact pc rfl rfl
 rw[ah sb];by_cases qf:f.Kind=17
 ·rw[al qf];exact Ku (fun c n=>Zu c n f)
 rw[ah qf];by_cases sc:f.Kind=18
 ·rw[al sc];by_cases hc:c.Client=true
  ·rw[al hc];exact pc rfl rfl
  ·rw[ah hc];exact kE c
 rw[ah sc];by_cases tm:f.Kind=26
 ·rw[al tm];exact pc rfl rfl
 rw[ah tm,ah Zx];exact kE c
theorem QN (c:aG) (n:Nat):ig c (kR c n).1:=by
 unfold kR;split
 ·exact xV rfl rfl (fun _=>⟨rfl,rfl⟩)
 ·exact kE c
theorem QO:∀ (m k:Nat) (c:aG),ig c (hV m k c).1
 | 0,k,c=>kE c
 | m+1,k,c=>by
  unfold hV;split
  ·exact(QN c k).trans (QO m (k+1) _)
  ·exact QN c k
theorem Wa (c:aG):ig c (lb c).1:=by
 have h:=QO c.aq.length 0 c;unfold lb;split
 ·split
  ·exact h.trans (pc rfl rfl)
  ·exact h
 ·exact h
end Go.Proofs.YtendheafcbickaaGreat
