/-
  FnExactStoredAddr: a part of the walk (merged and squeezed by program: SxA0 SxA3).
-/
import Derived.Test.YtmnccapnjphmfaaGreatZbac
namespace Go.Proofs.YtmnccapnjphmfaaGreat
set_option linter.unusedVariables false
set_option linter.unusedSimpArgs false
open Go.RowKit
set_option maxRecDepth 100000
set_option maxHeartbeats 8000000
def arrS (b:Nat)(x:AD)(O A H:Option Addr)(C D E:Nat):SA:=.agg [.sl b O x.c.n C,.sl (b+1) A x.aN D,.sl (b+2) H x.hN E]
def arrV (x:AD)(O A H:Option Addr)(C D E:Nat):Value:=.agg #[.slice O x.c.n C,.slice A x.aN D,.slice H x.hN E]
def arrR (b:Nat)(x:AD)(O A H:Option Addr)(so:Nat→Option Addr)(sc:Nat→Nat):List Ch:=[.row ⟨false,O,0,2,x.c.n,0,cellFld (b+3) x.c so sc⟩,.row ⟨false,A,0,1,x.aN,0,[fun i=>.int (x.ag i)]⟩,.row ⟨false,H,0,1,x.hN,0,[fun i=>.int (x.hg i)]⟩,.obj false (symRows false 0 x.c so (fun _=>0))]
def idA:SC→Nat→Nat
 | .sl id _ _ _,_=>id
 | .slc id _ _ _,_=>id
 | _,d=>d
def nidOf (fs:List (Nat→SC)):Nat :=
 match fs with
 | f::_=>idA (f 0) 1000003
 | []=>1000003
structure SeenA (w:World) (x:AD) (O A H:Option Addr) (so:Nat→Option Addr) (sc:Nat→Nat):Prop where
 h0:∀ id,Row.sat w ⟨false,O,0,2,x.c.n,0,cellFld id x.c so sc⟩
 h1:Row.sat w ⟨false,A,0,1,x.aN,0,[fun i=>.int (x.ag i)]⟩
 h2:Row.sat w ⟨false,H,0,1,x.hN,0,[fun i=>.int (x.hg i)]⟩
 h3:∀ r∈symRows false 0 x.c so (fun _=>0),r.own=false∧r.sat w
theorem SeenA.all {w:World}{x:AD}{O A H:Option Addr}{so:Nat→Option Addr}{sc:Nat→Nat}(h:SeenA w x O A H so sc)(b:Nat){cs:List Ch}(hc:∀ c∈cs,c.own=false∧c.sat w):∀ c∈arrR b x O A H so sc ++ cs,c.own=false∧c.sat w :=
 seenC_row rfl (h.h0 _) (seenC_row rfl h.h1 (seenC_row rfl h.h2 (seenC_obj h.h3 hc)))
theorem seenA_of {w:World}{x:AD}{r0 r1 r2:Row}{o:Bool}{t id:Nat}{so:Nat→Option Addr}{sc sd:Nat→Nat}(h0:r0.sat w)(h1:r1.sat w)(h2:r2.sat w)(h3:∀ r∈symRows o t x.c so sd,r.own=o∧r.sat w)
  (f0:r0.fld=cellFld id x.c so sc) (n0:r0.n=x.c.n) (f1:r1.fld=[fun i=>.int (x.ag i)]) (n1:r1.n=x.aN) (f2:r2.fld=[fun i=>.int (x.hg i)]) (n2:r2.n=x.hN):SeenA w x r0.ao r1.ao r2.ao so sc where
 h0:=fun id'=>by
  have:=seenAs' h0 f0 rfl
  rw [n0] at this
  exact Row.reF this ⟨fun i hi=>rfl,fun i hi=>rfl,trivial⟩
 h1:=by rw [← n1];exact seenAs' h1 f1 rfl
 h2:=by rw [← n2];exact seenAs' h2 f2 rfl
 h3:=symRows_seen fun r hr=>(h3 r hr).2
def rdA (ch:List Ch)(c:SA)(K:AD→Prop):Prop :=
 match c with
 | .agg [.sl i0 a0 n0 _,.sl i1 a1 n1 _,.sl i2 a2 n2 _] =>
  match ch[i0]?,ch[i1]?,ch[i2]? with
  | some (.row r0),some (.row r1),some (.row r2) =>
   match ch[nidOf r0.fld]? with
   | some (.obj o rs)=>∃ (t:Nat) (y:CD) (so:Nat→Option Addr) (sc sd:Nat→Nat) (ag hg:Nat→Int),(rs=symRows o t y so sd∧r0.fld=cellFld (nidOf r0.fld) y so sc∧a0=r0.ao∧n0=r0.n∧n0=y.n∧a1=r1.ao∧n1=r1.n∧r1.fld=[fun i=>.int (ag i)]∧a2=r2.ao∧n2=r2.n∧r2.fld=[fun i=>.int (hg i)])∧K ⟨y,n1,ag,n2,hg⟩
   | _=>False
  | _,_,_=>False
 | _=>False
theorem rdA_ok {ch:List Ch}{c:SA}{K:AD→Prop}(h:rdA ch c K){X:Cx}{w:World}(hs:HS X ch w):∃ (x:AD) (O A H:Option Addr) (C D E:Nat) (so:Nat→Option Addr) (sc:Nat→Nat),c.den=arrV x O A H C D E∧SeenA w x O A H so sc∧K x:=by
 unfold rdA at h
 split at h
 ·rename_i i0 a0 n0 c0 i1 a1 n1 c1 i2 a2 n2 c2
  split at h
  ·rename_i r0 r1 r2 h0 h1 h2
   split at h
   ·rename_i o rs h3
    obtain ⟨t,y,so,sc,sd,ag,hg,⟨rfl,f0,rfl,rfl,hn,rfl,rfl,f1,rfl,rfl,f2⟩,hk⟩:=h
    refine ⟨_,r0.ao,r1.ao,r2.ao,c0,c1,c2,so,sc,?_,seenA_of (x:=⟨y,r1.n,ag,r2.n,hg⟩) (hs.sat i0 _ h0) (hs.sat i1 _ h1) (hs.sat i2 _ h2) (hs.seeObj h3) f0 hn f1 rfl f2 rfl,hk⟩
    simp only [SA.den,arrV,List.map_cons,List.map_nil,SC.den,hn]
   ·exact h.elim
  ·exact h.elim
 ·exact h.elim
def rdC (ch:List Ch)(c:SA)(K:Nat→(Nat→Int)→Bool→Prop):Prop :=
 match c with
 | .agg [x,pc] =>
  match asB pc with
  | some b=>rdn ch x fun n g=>K n g b
  | none=>False
 | _=>False
theorem rdC_ok {ch:List Ch}{c:SA}{K:Nat→(Nat→Int)→Bool→Prop}(h:rdC ch c K){X:Cx}{w:World}(hs:HS X ch w) :
  ∃ (ao:Option Addr) (n c':Nat) (g0:Nat→Int) (b:Bool),c.den=.agg #[.slice ao n c',.bool b]∧Row.sat w ⟨false,ao,0,1,n,0,[fun i=>.int (g0 i)]⟩∧K n g0 b:=by
 unfold rdC at h
 split at h
 ·split at h
  ·rename_i b hb
   obtain ⟨ao,n,c',g0,e,hr,hk⟩:=rdn_ok h hs
   exact ⟨ao,n,c',g0,b,by simp only [SA.den,List.map_cons,List.map_nil,e,asB_den hb],hr,hk⟩
  ·exact h.elim
 ·exact h.elim
theorem symRows_nil {o:Bool}{t:Nat}{sn:Nat→Nat}{sy:Nat→Nat→Int}{po:Nat→Bool}{so:Nat→Option Addr}{sc:Nat→Nat}:symRows o t ⟨0,sn,sy,po⟩ so sc=[]:=rfl
end Go.Proofs.YtmnccapnjphmfaaGreat
