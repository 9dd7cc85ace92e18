
import Derived.Test.YtendheafcbickaaGreatCRgsCut
set_option linter.unusedVariables false
set_option linter.unusedSimpArgs false
set_option maxHeartbeats 16000000
namespace Go.Proofs.YtendheafcbickaaGreat
set_option maxRecDepth 100000
attribute [local irreducible] cE a6 bu GStep Fn cg bf
def uu (x y:aK):Prop:=max x.bE y.bE<=min x.bz y.bz
def Fq (m:List aK) (x:aK):Prop:=eu (fun j=>¬ uu x (m.getD j default)) m.length
def BG (l m:List aK):Prop:=eu (fun i=>Fq m (l.getD i default)) l.length
theorem Sh (l m:List aK) (ao:l.length * 16<=140737488351232) (hm:m.length * 16<=140737488351232):Fn Tryz.prog 255 [.ro (l.map aB),.ro (m.map aB)] (ab (yes (¬ BG l m))):=by
 refine aH Tryz.func255 ?_;(try refine ay ?_;and_intros <;> intros);refine cv (fun k:Nat=>⟨[(1,.ro (m.map aB)),(9,.ro (l.map aB)),(10,I l.length),(11,I k)],[],0,Tryz.f255.ntmps⟩)
  (fun k=>k<=l.length/\eu (fun i=>Fq m (l.getD i default)) k) (fun k=>l.length - k) 0 ⟨cm _,lP⟩ dV ?_
 rintro k ⟨ag,br⟩;by_cases au:k<l.length
 ·(try refine ay ?_;and_intros <;> intros);refine cv (fun j:Nat=>⟨[(1,.ro (m.map aB)),(9,.ro (l.map aB)),(10,I l.length),(11,I k),(6,.ptr 0 0 0 0),(15,.ro (m.map aB)),(16,I m.length),(17,I j)],[(0,some (.box 146 (aB (l.getD k default))))],1,Tryz.f255.ntmps⟩)
   (fun j=>j<=m.length/\eu (fun j=>¬ uu (l.getD k default) (m.getD j default)) j) (fun j=>m.length - j) 0 ⟨cm _,lP⟩ dV ?_
  rintro j ⟨ad,hb⟩;by_cases fh:j<m.length
  ·(try refine ay ?_;and_intros <;> intros)
   all_goals first
    | (exact⟨j+1,(by omega),(by exact⟨fh,iQ.2 ⟨hb,by unfold uu;assumption⟩⟩),ba⟩)
    | (refine bX (hr:=?_);exact rH (fun h=>h k au j fh (by unfold uu;assumption)))
  ·(try refine ay ?_;and_intros <;> intros)
   all_goals (exact⟨k+1,(by omega),⟨au,iQ.2 ⟨br,fun i hi=>hb i (by omega)⟩⟩,ba⟩)
 ·(try refine ay ?_;and_intros <;> intros)
  all_goals (refine bX (hr:=?_);exact oy (fun h=>h fun i hi=>br i (by omega)))
end Go.Proofs.YtendheafcbickaaGreat
