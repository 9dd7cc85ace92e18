
import Derived.Test.YtendheafcbickaaGreatCMg39
set_option linter.unusedVariables false
set_option linter.unusedSimpArgs false
namespace Go.Proofs.YtendheafcbickaaGreat
set_option maxRecDepth 100000
theorem Tt {B:Nat} (c:aG) (id:Int) (ad:c3 c) (ao:cK B c) (C:aG) (e:Int) (ap:eV c id=(C,e)) (r:V) (hr:(e≠0/\r = .lit (.pointer none))\/(e=0/\b7 C.aq id<C.aq.length/\r = .ptr 7 (b7 C.aq id) 16 0)\/(e=0 /\ ¬ b7 C.aq id<C.aq.length/\r = .lit (.pointer none))) (TB:TypeId) :
  cA Tryz.prog 245 [.ptr 0 0 0 0,I id] [(0,some (.box 116 (a1 c (.own 1) (.own 2)))),(1,some (.ch 134 16 (cM 3 c.aq))),(2,some (.row 111 7 (c.Queue.map aO))),(3,some (.row TB 1 (bV c 0))),(4,some (.row TB 1 (bV c 1))),(5,some (.row TB 1 (bV c 2))),(6,some (.row TB 1 (bV c 3)))] 7
   (.bN [r,I e]) [(0,some (.box 116 (a1 C (.own 7) (.own 8)))),(7,some (.ch 134 16 (cM 9 C.aq))),(8,some (.row 111 7 (C.Queue.map aO))),(9,some (.row TB 1 (bV C 0))),(10,some (.row TB 1 (bV C 1))),(11,some (.row TB 1 (bV C 2))),(12,some (.row TB 1 (bV C 3)))] 13:=by
 have hi:=q1 (id:=id) ad ao;have ag:=Cl c id;rw[ap] at hi ag;have av:=ad.jf;rcases hr with⟨J,rfl⟩ | ⟨J,aa,rfl⟩ | ⟨J,aa,rfl⟩
 ·exact yD (r:=.bN [.lit (.pointer none),I e]) ao hi.2.1.eg ag rfl (fun u hu=>wx u c id ao.eg ad.op.1 (by omega) hu C e ap _ (.inl ⟨J,rfl⟩))
 ·exact yD (r:=.bN [.ptr 3 (b7 C.aq id) 16 0,I e]) ao hi.2.1.eg ag rfl (fun u hu=>wx u c id ao.eg ad.op.1 (by omega) hu C e ap _ (.inr (.inl ⟨J,aa,rfl⟩)))
 ·exact yD (r:=.bN [.lit (.pointer none),I e]) ao hi.2.1.eg ag rfl (fun u hu=>wx u c id ao.eg ad.op.1 (by omega) hu C e ap _ (.inr (.inr ⟨J,aa,rfl⟩)))
end Go.Proofs.YtendheafcbickaaGreat
