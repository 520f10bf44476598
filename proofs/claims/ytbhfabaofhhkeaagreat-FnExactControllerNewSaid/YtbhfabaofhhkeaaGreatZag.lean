/-
  FnExactControllerNew: a part of the walk (merged and squeezed by program: SxA0 SxAB SxA3).
-/
import Derived.Test.YtbhfabaofhhkeaaGreatZac
namespace Go.Proofs.YtbhfabaofhhkeaaGreat
set_option linter.unusedVariables false
set_option linter.unusedSimpArgs false
open Go.RowKit
set_option maxRecDepth 100000
set_option maxHeartbeats 8000000
def arrS (b:Nat)(x:AD)(O A H:Option Addr)(C D E:Nat):SA:=.agg [.sl b O x.c.n C,.sl (b+1) A x.aN D,.sl (b+2) H x.hN E]
def arrV (x:AD)(O A H:Option Addr)(C D E:Nat):Value:=.agg #[.slice O x.c.n C,.slice A x.aN D,.slice H x.hN E]
def arrR (b:Nat)(x:AD)(O A H:Option Addr)(so:Nat→Option Addr)(sc:Nat→Nat):List Ch:=[.row ⟨false,O,0,2,x.c.n,0,cellFld (b+3) x.c so sc⟩,.row ⟨false,A,0,1,x.aN,0,[fun i=>.int (x.ag i)]⟩,.row ⟨false,H,0,1,x.hN,0,[fun i=>.int (x.hg i)]⟩,.obj false (symRows false 0 x.c so (fun _=>0))]
def arrO (b:Nat)(x:AD)(O A H:Option Addr)(C D E:Nat)(so:Nat→Option Addr)(sc:Nat→Nat):List Ch:=[.row ⟨true,O,149,2,x.c.n,C,cellFld (b+3) x.c so sc⟩,.row ⟨true,A,3,1,x.aN,D,[fun i=>.int (x.ag i)]⟩,.row ⟨true,H,3,1,x.hN,E,[fun i=>.int (x.hg i)]⟩,.obj true (symRows true 3 x.c so sc)]
def idA:SC→Nat→Nat
 | .sl id _ _ _,_=>id
 | .slc id _ _ _,_=>id
 | _,d=>d
def nidOf (fs:List (Nat→SC)):Nat :=
 match fs with
 | f::_=>idA (f 0) 1000003
 | []=>1000003
def idsArr (v:SV)(ch:List Ch):List Nat :=
 match v with
 | .a (.agg [a,b,c])=>[idA a 1000000,idA b 1000001,idA c 1000002,match ch[idA a 1000000]? with
  | some (.row r)=>nidOf r.fld
  | _=>1000003]
 | .tup (.agg [a,b,c]::_)=>[idA a 1000000,idA b 1000001,idA c 1000002,match ch[idA a 1000000]? with
  | some (.row r)=>nidOf r.fld
  | _=>1000003]
 | _=>[]
structure SeenA (w:World) (x:AD) (O A H:Option Addr) (so:Nat→Option Addr) (sc:Nat→Nat):Prop where
 h0:∀ id,Row.sat w ⟨false,O,0,2,x.c.n,0,cellFld id x.c so sc⟩
 h1:Row.sat w ⟨false,A,0,1,x.aN,0,[fun i=>.int (x.ag i)]⟩
 h2:Row.sat w ⟨false,H,0,1,x.hN,0,[fun i=>.int (x.hg i)]⟩
 h3:∀ r∈symRows false 0 x.c so (fun _=>0),r.own=false∧r.sat w
theorem SeenA.all {w:World}{x:AD}{O A H:Option Addr}{so:Nat→Option Addr}{sc:Nat→Nat}(h:SeenA w x O A H so sc)(b:Nat){cs:List Ch}(hc:∀ c∈cs,c.own=false∧c.sat w):∀ c∈arrR b x O A H so sc ++ cs,c.own=false∧c.sat w :=
 seenC_row rfl (h.h0 _) (seenC_row rfl h.h1 (seenC_row rfl h.h2 (seenC_obj h.h3 hc)))
def rdC (ch:List Ch)(c:SA)(K:Nat→(Nat→Int)→Bool→Prop):Prop :=
 match c with
 | .agg [x,pc] =>
  match asB pc with
  | some b=>rdn ch x fun n g=>K n g b
  | none=>False
 | _=>False
theorem rdC_ok {ch:List Ch}{c:SA}{K:Nat→(Nat→Int)→Bool→Prop}(h:rdC ch c K){X:Cx}{w:World}(hs:HS X ch w) :
  ∃ (ao:Option Addr) (n c':Nat) (g0:Nat→Int) (b:Bool),c.den=.agg #[.slice ao n c',.bool b]∧Row.sat w ⟨false,ao,0,1,n,0,[fun i=>.int (g0 i)]⟩∧K n g0 b:=by
 unfold rdC at h
 split at h
 ·split at h
  ·rename_i b hb
   obtain ⟨ao,n,c',g0,e,hr,hk⟩:=rdn_ok h hs
   exact ⟨ao,n,c',g0,b,by simp only [SA.den,List.map_cons,List.map_nil,e,asB_den hb],hr,hk⟩
  ·exact h.elim
 ·exact h.elim
def idP:SV→Nat
 | .a (.c (.ptr i _ _))=>i
 | _=>1000009
theorem push_hd {j id:Nat}{sn scq:Nat→Nat}{soq:Nat→Option Addr}{ro:Option Addr}{rc:Nat}:∀ i,ltN i (j+1)→(SC.val (if i<j then Value.slice (soq i) (sn i) (scq i) else Value.slice ro (sn j) rc)).den=(SC.sl id (if i<j then soq i else ro) (sn i) (if i<j then scq i else rc)).den:=fun i hi=>by
 have hi2:i<j+1:=hi
 by_cases hij:i<j
 ·simp [SC.den,hij]
 ·have hij2:i=j:=by omega
  subst hij2
  simp [SC.den]
theorem push_po {j:Nat}{po:Nat→Bool}:∀ i,ltN i (j+1)→(SC.bool (if i<j then po i else po j)).den=(SC.bool (po i)).den:=fun i hi=>by
 have hi2:i<j+1:=hi
 by_cases hij:i<j
 ·simp [SC.den,hij]
 ·have hij2:i=j:=by omega
  subst hij2
  simp [SC.den]
theorem symRows_nil {o:Bool}{t:Nat}{sn:Nat→Nat}{sy:Nat→Nat→Int}{po:Nat→Bool}{so:Nat→Option Addr}{sc:Nat→Nat}:symRows o t ⟨0,sn,sy,po⟩ so sc=[]:=rfl
theorem arrO_at {b:Nat}{x:AD}{O A H:Option Addr}{C D E:Nat}{so:Nat→Option Addr}{sc:Nat→Nat}{X:Cx}{w:World}(h:HS X (arrO 0 x O A H C D E so sc) w):HS X (arrO b x O A H C D E so sc) w :=
 h.reS ⟨⟨rfl,rfl,rfl,rfl,rfl,rfl,fun i hi=>rfl,fun i hi=>rfl,trivial⟩,⟨rfl,rfl,rfl,rfl,rfl,rfl,fun i hi=>rfl,trivial⟩,⟨rfl,rfl,rfl,rfl,rfl,rfl,fun i hi=>rfl,trivial⟩,⟨rfl,rfl⟩,trivial⟩
end Go.Proofs.YtbhfabaofhhkeaaGreat
