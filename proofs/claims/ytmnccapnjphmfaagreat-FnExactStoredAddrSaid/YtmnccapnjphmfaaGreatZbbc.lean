/-
  FnExactStoredAddr: a part of the walk (merged and squeezed by program: SxPrC).
-/
import Derived.Test.YtmnccapnjphmfaaGreatZbar
import Derived.Test.YtmnccapnjphmfaaGreatZbaz
import Derived.Test.YtmnccapnjphmfaaGreatZbba
import Derived.Test.YtmnccapnjphmfaaGreatZbbb
namespace Go.Proofs.YtmnccapnjphmfaaGreat
set_option linter.unusedVariables false
set_option linter.unusedSimpArgs false
open Go.RowKit
set_option maxRecDepth 100000
set_option maxHeartbeats 8000000
theorem bcase (b:Bool):b=false∨b=true:=by cases b <;> simp
def prtB (x:CtD):Bool:=rfB (x.n 9) (x.g 9 0) (x.i 44)&&bksB x
def sbkqI (x:CtD)(o:Nat→Option Addr)(q:Nat→Nat)(so:Nat→Option Addr)(sc:Nat→Nat)(uo:Nat→Option Addr)(uc:Nat→Nat)(vo:Nat→Option Addr)(vc:Nat→Nat):LSm:=fun ts ch kk=>bkC x∧sbkTIw x o q so sc uo uc vo vc ts ch kk
theorem bkqI_ok (x:CtD)(o:Nat→Option Addr)(q:Nat→Nat)(so:Nat→Option Addr)(sc:Nat→Nat)(uo:Nat→Option Addr)(uc:Nat→Nat)(vo:Nat→Option Addr)(vc:Nat→Nat)(hcap:capCt x)(X:Cx):LoopOK Tryz.prog X (theLoop Tryz.f66 0) (sbkqI x o q so sc uo uc vo vc):=by
 rintro ts ch kk a w ⟨hm,h⟩ hT hd hs
 exact bkTIw_ok x o q so sc uo uc vo vc hcap hm X ts ch kk a w h hT hd hs
theorem prtI_T (x:CtD)(o:Nat→Option Addr)(q:Nat→Nat)(so:Nat→Option Addr)(sc:Nat→Nat)(uo:Nat→Option Addr)(uc:Nat→Nat)(vo:Nat→Option Addr)(vc:Nat→Nat):(exFn Tryz.prog {tb:=[(133,sBank),(140,sRfOk)],L:=[(6,sbkqI x o q so sc uo uc vo vc),(12,sbkPIw x o q so sc uo uc vo vc)]} 400 Tryz.f66 ([.a (.agg (ctS 0 x o q))]) (ctR 0 x o q so sc uo uc vo vc) (fun y_ _=>y_.den=.bool (prtB x)))=(
 (fun b:Value=>(fun c:Value=>(fun d:Value=>(fun g:Value=>(fun h:Value=>(fun j:Value=>(fun k:Value=>(fun l:Value=>(fun m:Value=>(fun n:Int=>(fun p:Value=>(fun r:Ch=>(fun s:Bool=>(fun t:Value=>(fun u:List SC=>(fun v:Ch=>(fun w:Ch=>(fun y:Ch=>(fun z:Ch=>(fun B:Ch=>(fun C:Ch=>(fun D:Ch=>(fun E:Ch=>(fun F:Value=>(fun G:Value=>(fun H:Ch=>(fun I:Bool=>(fun J:Bool=>(fun K:Bool=>(fun M:Value=>(fun N:Value=>(fun O:Value=>(fun P:Ch=>(fun Q:Ch=>(fun R:Ch=>(fun S:Ch=>(fun T:Ch=>(fun U:Ch=>(fun V:Ch=>(fun W:Ch=>(fun X:Ch=>(fun Y:Ch=>(fun Z:Ch=>(fun aa:Value=>(fun ab:List SC=>∀ ac:Nat,(fun ad:Value=>(fun af:Value=>ac=ac∧∀ ag:Nat,ag=ag∧ag=ag∧ac=ac∧∃ ah:Nat→Int,(fun aj:Bool=>(fun ak:Value=>(fun al:Value=>((o 9)=(o 9)∧(x.3 9)=(x.3 9)∧[fun am=>Ci (x.4 9 0 am)]=[fun am=>Ci (ah am)])∧lenC (x.3 9)∧(aj=false→ac=ac∧(J=false→ac=ac∧(I=false→ac=ac∧(K=false→ac=ac∧(s=true→c=d)∧(s=false→ac=ac∧bkC x∧∃ am an:Nat,([aa,ad,c,Wp ag 0,p,b,b,b,ad,ad,G,G,p,af,F,ak,al,c,af,af,h,Wi (((x.3 9):Nat):Int),p,N,N,c,Wp ac 58,g,j,p,M,M,c,Wp ac 59,l,Wi (((x.3 11):Nat):Int),p,O,O,c,Wp ac 60,k,m,t,c,Wp ac 58,g,j,Wi 0,b,b,b,b,b,b,b,b,b,b,b,b,b,b,b,b,b,b,b,b,b,b,b,b,b,b,b,b,b,b,b,b,b,b,b,b,b,b,b,b,b,b,b,b,b]=[aa,Wp am 0,c,Wp an 0,p,b,b,b,ad,ad,G,G,p,af,F,ak,al,c,af,af,h,Wi (((x.3 9):Nat):Int),p,N,N,c,Wp ac 58,g,j,p,M,M,c,Wp ac 59,l,Wi (((x.3 11):Nat):Int),p,O,O,c,Wp ac 60,k,m,t,c,Wp ac 58,g,j,Wi 0,b,b,b,b,b,b,b,b,b,b,b,b,b,b,b,b,b,b,b,b,b,b,b,b,b,b,b,b,b,b,b,b,b,b,b,b,b,b,b,b,b,b,b,b,b]∧[E,D,R,C,B,T,z,y,w,v,W,H,V,Z,S,U,Y,X,r,Q,P,Hc ac 99 ab,Hc ag 68 u]=[E,D,R,C,B,T,z,y,w,v,W,H,V,Z,S,U,Y,X,r,Q,P,Hc am 99 ab,Hc an 68 u])∧(∀ ao:Nat→Value,(allB x.7.1 (bkTIP x o q so sc uo uc vo vc am an))=true→am=am∧∃ ap aq:Nat,([ao 0,Wp am 0,ao 2,Wp an 0,ao 4,ao 5,ao 6,ao 7,ao 8,ao 9,ao 10,ao 11,ao 12,ao 13,ao 14,ao 15,ao 16,ao 17,ao 18,ao 19,ao 20,ao 21,ao 22,ao 23,ao 24,ao 25,ao 26,ao 27,ao 28,ao 29,ao 30,ao 31,ao 32,ao 33,ao 34,ao 35,ao 36,ao 37,ao 38,ao 39,ao 40,ao 41,ao 42,ao 43,ao 44,ao 45,g,j,j,ao 49,ao 50,ao 51,ao 52,ao 53,ao 54,ao 55,ao 56,ao 57,ao 58,ao 59,ao 60,ao 61,ao 62,ao 63,ao 64,ao 65,ao 66,ao 67,Wp am 60,k,m,Wi 0,ao 72,ao 73,ao 74,ao 75,ao 76,ao 77,ao 78,ao 79,ao 80,ao 81,ao 82,ao 83,ao 84,ao 85,ao 86,ao 87,ao 88,ao 89,ao 90,ao 91,ao 92,ao 93]=[ao 0,Wp ap 0,ao 2,Wp aq 0,ao 4,ao 5,ao 6,ao 7,ao 8,ao 9,ao 10,ao 11,ao 12,ao 13,ao 14,ao 15,ao 16,ao 17,ao 18,ao 19,ao 20,ao 21,ao 22,ao 23,ao 24,ao 25,ao 26,ao 27,ao 28,ao 29,ao 30,ao 31,ao 32,ao 33,ao 34,ao 35,ao 36,ao 37,ao 38,ao 39,ao 40,ao 41,ao 42,ao 43,ao 44,ao 45,g,j,j,ao 49,ao 50,ao 51,ao 52,ao 53,ao 54,ao 55,ao 56,ao 57,ao 58,ao 59,ao 60,ao 61,ao 62,ao 63,ao 64,ao 65,ao 66,ao 67,Wp am 60,k,m,Wi 0,ao 72,ao 73,ao 74,ao 75,ao 76,ao 77,ao 78,ao 79,ao 80,ao 81,ao 82,ao 83,ao 84,ao 85,ao 86,ao 87,ao 88,ao 89,ao 90,ao 91,ao 92,ao 93]∧[E,D,R,C,B,T,z,y,w,v,W,H,V,Z,S,U,Y,X,r,Q,P,Hc am 99 ab,Hc an 68 u]=[E,D,R,C,B,T,z,y,w,v,W,H,V,Z,S,U,Y,X,r,Q,P,Hc ap 99 ab,Hc aq 68 u])∧(∀ ar:Nat→Value,(allB (x.3 12) (bkPIP x o q so sc uo uc vo vc ap aq))=true→(Wb true)=d)∧∀(ar:Nat→Value) (au:Nat),au<(x.3 12)→(allB au (bkPIP x o q so sc uo uc vo vc ap aq))=true→(bkPIP x o q so sc uo uc vo vc ap aq au)=false→c=d)∧∀(ao:Nat→Value) (ap:Nat),ap<x.7.1→(allB ap (bkTIP x o q so sc uo uc vo vc am an))=true→(bkTIP x o q so sc uo uc vo vc am an ap)=false→c=d))∧(K=true→c=d))∧(I=true→c=d))∧(J=true→c=d))∧(aj=true→c=d)) (Wb aj)) (Wb (rfB (x.3 9) ah (x.1 44)))) (! (rfB (x.3 9) ah (x.1 44)))) (Wp ac 55)) (Wp ac 0)) [Ci (x.1 0),Ci (x.1 1),Ci (x.1 2),Ci (x.1 3),Ci (x.1 4),Ci (x.1 5),Ci (x.1 6),Ci (x.1 7),Ci (x.1 8),Ci (x.1 9),Ci (x.1 10),Ci (x.1 11),Ci (x.1 12),Ci (x.1 13),Ci (x.1 14),Ci (x.1 15),Ci (x.1 16),Ci (x.1 17),Ci (x.1 18),Ci (x.1 19),Ci (x.1 20),Ci (x.1 21),Cb (x.2 0),Ci (x.1 22),Ci (x.1 23),Ci (x.1 24),Ci (x.1 25),Ci (x.1 26),Ci (x.1 27),Ci (x.1 28),Ci (x.1 29),Ci (x.1 30),Ci (x.1 31),Cs 0 (o 0) (x.3 0) (q 0),Ci (x.1 32),Ci (x.1 33),Ci (x.1 34),Ci (x.1 35),Ci (x.1 36),Ci (x.1 37),Ci (x.1 38),Cs 1 (o 1) (x.3 1) (q 1),Ci (x.1 39),Ci (x.1 40),Cb (x.2 1),Ci (x.1 41),Cs 2 (o 2) (x.3 2) (q 2),Ci (x.1 42),Cs 3 (o 3) (x.3 3) (q 3),Cs 4 (o 4) (x.3 4) (q 4),Cs 5 (o 5) x.6.1 (q 5),Cs 6 (o 6) (x.3 6) (q 6),Cs 7 (o 7) (x.3 7) (q 7),Ci (x.1 43),Cs 8 (o 8) (x.3 8) (q 8),Cs 9 (o 9) (x.3 9) (q 9),Ci (x.1 44),Cb (x.2 2),Cs 10 (o 10) x.7.1 (q 10),Cs 11 (o 11) (x.3 11) (q 11),Cs 12 (o 12) (x.3 12) (q 12),Cs 13 (o 13) (x.3 13) (q 13),Cs 14 (o 14) (x.3 14) (q 14),Cb (x.2 3),Ci (x.1 45),Ci (x.1 46),Ci (x.1 47),Ci (x.1 48),Ci (x.1 49),Ci (x.1 50),Ci (x.1 51),Ci (x.1 52),Cs 15 (o 15) (x.3 15) (q 15),Cs 16 (o 16) (x.3 16) (q 16),Cs 17 (o 17) (x.3 17) (q 17)]) (Wa [Wi (x.1 0),Wi (x.1 1),Wi (x.1 2),Wi (x.1 3),Wi (x.1 4),Wi (x.1 5),Wi (x.1 6),Wi (x.1 7),Wi (x.1 8),Wi (x.1 9),Wi (x.1 10),Wi (x.1 11),Wi (x.1 12),Wi (x.1 13),Wi (x.1 14),Wi (x.1 15),Wi (x.1 16),Wi (x.1 17),Wi (x.1 18),Wi (x.1 19),Wi (x.1 20),Wi (x.1 21),Wb (x.2 0),Wi (x.1 22),Wi (x.1 23),Wi (x.1 24),Wi (x.1 25),Wi (x.1 26),Wi (x.1 27),Wi (x.1 28),Wi (x.1 29),Wi (x.1 30),Wi (x.1 31),Ws (o 0) (x.3 0) (q 0),Wi (x.1 32),Wi (x.1 33),Wi (x.1 34),Wi (x.1 35),Wi (x.1 36),Wi (x.1 37),Wi (x.1 38),Ws (o 1) (x.3 1) (q 1),Wi (x.1 39),Wi (x.1 40),Wb (x.2 1),Wi (x.1 41),Ws (o 2) (x.3 2) (q 2),Wi (x.1 42),Ws (o 3) (x.3 3) (q 3),Ws (o 4) (x.3 4) (q 4),Ws (o 5) x.6.1 (q 5),Ws (o 6) (x.3 6) (q 6),Ws (o 7) (x.3 7) (q 7),Wi (x.1 43),Ws (o 8) (x.3 8) (q 8),h,Wi (x.1 44),Wb (x.2 2),g,l,k,Ws (o 13) (x.3 13) (q 13),Ws (o 14) (x.3 14) (q 14),Wb (x.2 3),Wi (x.1 45),Wi (x.1 46),Wi (x.1 47),Wi (x.1 48),Wi (x.1 49),Wi (x.1 50),Wi (x.1 51),Wi (x.1 52),Ws (o 15) (x.3 15) (q 15),Ws (o 16) (x.3 16) (q 16),Ws (o 17) (x.3 17) (q 17)])) (Hr false (o 13) 0 6 (x.3 13) 0 [fun Z=>Ci (x.4 13 0 Z),fun Z=>Ci (x.4 13 1 Z),fun Z=>Ci (x.4 13 2 Z),fun Z=>Cb (x.5 13 3 Z),fun Z=>Ci (x.4 13 4 Z),fun Z=>Ci (x.4 13 5 Z)])) (Hr false (o 16) 0 5 (x.3 16) 0 [fun Y=>Ci (x.4 16 0 Y),fun Y=>Ci (x.4 16 1 Y),fun Y=>Ci (x.4 16 2 Y),fun Y=>Ci (x.4 16 3 Y),fun Y=>Ci (x.4 16 4 Y)])) (Hr false (o 17) 0 4 (x.3 17) 0 [fun X=>Ci (x.4 17 0 X),fun X=>Ci (x.4 17 1 X),fun X=>Ci (x.4 17 2 X),fun X=>Ci (x.4 17 3 X)])) (Hr false (o 10) 0 3 x.7.1 0 [fun W=>Cs 19 (uo W) (x.7.2 W) (uc W),fun W=>Cs 20 (vo W) (x.7.4 W) (vc W),fun W=>Ci (x.7.6 W)])) (Hr false (o 12) 0 3 (x.3 12) 0 [fun V=>Ci (x.4 12 0 V),fun V=>Ci (x.4 12 1 V),fun V=>Ci (x.4 12 2 V)])) (Hr false (o 15) 0 3 (x.3 15) 0 [fun U=>Ci (x.4 15 0 U),fun U=>Ci (x.4 15 1 U),fun U=>Ci (x.4 15 2 U)])) (Hr false (o 5) 0 2 x.6.1 0 [fun T=>Cs 18 (so T) (x.6.2 T) (sc T),fun T=>Cb (x.6.4 T)])) (Hr false (o 14) 0 2 (x.3 14) 0 [fun S=>Ci (x.4 14 0 S),fun S=>Ci (x.4 14 1 S)])) (Hr false (o 2) 0 2 (x.3 2) 0 [fun R=>Cb (x.5 2 0 R),fun R=>Ci (x.4 2 1 R)])) (Ho false (symRows false 0 (CD.mk x.7.1 x.7.2 x.7.3 (fun Q=>false)) uo (fun Q=>0)))) (Ho false (symRows false 0 (CD.mk x.7.1 x.7.4 x.7.5 (fun P=>false)) vo (fun P=>0)))) (Wb K)) (Wb J)) (Wb I)) ((((x.3 11):Nat):Int) != n)) ((((x.3 9):Nat):Int) != n)) (((x.7.1:Nat):Int) != n)) (Hr false (o 11) 0 1 (x.3 11) 0 [fun H=>Ci (x.4 11 0 H)])) (Wa [Wi (x.1 0),Wi (x.1 1),Wi (x.1 2),Wi (x.1 3)])) (Wa [h,Wi (x.1 44),Wb (x.2 2)])) (Hr false (o 0) 0 1 (x.3 0) 0 [fun E=>Ci (x.4 0 0 E)])) (Hr false (o 1) 0 1 (x.3 1) 0 [fun D=>Ci (x.4 1 0 D)])) (Hr false (o 3) 0 1 (x.3 3) 0 [fun C=>Ci (x.4 3 0 C)])) (Hr false (o 4) 0 1 (x.3 4) 0 [fun B=>Ci (x.4 4 0 B)])) (Hr false (o 6) 0 1 (x.3 6) 0 [fun z=>Ci (x.4 6 0 z)])) (Hr false (o 7) 0 1 (x.3 7) 0 [fun y=>Ci (x.4 7 0 y)])) (Hr false (o 8) 0 1 (x.3 8) 0 [fun w=>Ci (x.4 8 0 w)])) (Hr false (o 9) 0 1 (x.3 9) 0 [fun v=>Ci (x.4 9 0 v)])) [Ci (x.1 0),Ci (x.1 1),Ci (x.1 2),Ci (x.1 3)]) (Wb s)) (decide ((((x.3 12):Nat):Int) > (128:Int)))) (Ho false (symRows false 0 x.6 so (fun r=>0)))) (Wi n)) (bankN (x.1 0) (x.1 1) (x.1 2) (x.1 3))) (Wi (((x.3 12):Nat):Int))) (Ws (o 11) (x.3 11) (q 11))) (Ws (o 12) (x.3 12) (q 12))) (Wi ((x.7.1:Nat):Int))) (Ws (o 9) (x.3 9) (q 9))) (Ws (o 10) x.7.1 (q 10))) (Wb (prtB x))) (Wb false)) (Wu [])):=by kernel_rfl
theorem prtI_any (x:CtD)(o:Nat→Option Addr)(q:Nat→Nat)(so:Nat→Option Addr)(sc:Nat→Nat)(uo:Nat→Option Addr)(uc:Nat→Nat)(vo:Nat→Option Addr)(vc:Nat→Nat)(w:World)(hA:∀ c∈ctR 0 x o q so sc uo uc vo vc,c.own=false∧c.sat w)(hcap:capCt x):Calls Tryz.prog 66 #[ctV x o q] w fun e w'=>e=.returned (.bool (prtB x))∧Below w.heap.size w w':=by
 refine fn_ok mixed (E:={tb:=[(133,sBank),(140,sRfOk)],L:=[(6,sbkqI x o q so sc uo uc vo vc),(12,sbkPIw x o q so sc uo uc vo vc)]}) ⟨sBank_I,sRfOk_I,trivial⟩ Tryz.func66 (two_loops (by kernel_rfl) (by decide) (bkqI_ok x o q so sc uo uc vo vc hcap _) (bkPIw_ok x o q so sc uo uc vo vc hcap _)) (@Eq.mpr _ _ (prtI_T x o q so sc uo uc vo vc) ?_) (HS.seenAll (fun _=>False) _ hA) (fun v ch' w' hv hs=>⟨by rw [hv],hs.below⟩)
 dsimp -zeta -proj -iota -eta -failIfUnchanged (etaStruct:=.none) only
 clear hA
 have hl9:lenC (x.n 9):=by have h:x.n 9≤2097152:=hcap.1.2.2.2.2.2.2.2.2.1;show _≤_;omega
 have hp1:x.n 12≤2097152:=hcap.1.2.2.2.2.2.2.2.2.2.2.1
 clear hcap
 have hc1:allB (x.t.n) (fun j=>trkB (x.t.rn j) (x.t.ry j) (x.t.qn j) (x.t.qy j) (x.t.sp j)&&btw (x.g 11 0 j) 3 1000)=allB (x.t.n) (fun j=>trkB (x.t.rn j) (x.t.ry j) (x.t.qn j) (x.t.qy j) (x.t.sp j)&&btw (x.g 11 0 j) 3 1000):=rfl
 have hc2:allB (x.n 12) (fun j=>adOk (x.i 0) (x.i 1) (x.i 2) (x.i 3) (x.g 12 0 j) (x.g 12 1 j) (x.g 12 2 j)&&ieq (x.g 12 2 j) 0&&ieq (adI (x.n 12) (x.g 12) (x.g 12 0 j) (x.g 12 1 j) (x.g 12 2 j)) (j:Int))=allB (x.n 12) (fun j=>adOk (x.i 0) (x.i 1) (x.i 2) (x.i 3) (x.g 12 0 j) (x.g 12 1 j) (x.g 12 2 j)&&ieq (x.g 12 2 j) 0&&ieq (adI (x.n 12) (x.g 12) (x.g 12 0 j) (x.g 12 1 j) (x.g 12 2 j)) (j:Int)):=rfl
 rcases bcase (rfB (x.n 9) (x.g 9 0) (x.i 44)) with h0 | h0
 ·have hok:prtB x=false:=by simp only [prtB,bksB,h0,Bool.false_and,Bool.and_false]
  repeat' (first
   | with_reducible exact rfl
   | exact True.intro
   | with_reducible assumption
   | (simp only [hok];done)
   | refine And.intro ?_ ?_
   | apply Exists.intro
   | (refine fun (h:@Eq Bool _ _)=>?_;exfalso;first | (simp [h0] at h;done) | (simp [h0] at h;omega))
   | intro _
   | omega
   | exact rfl)
  all_goals exact false
 ·skip
  rcases bcase (ieq (x.n 9:Int) (bankN (x.i 0) (x.i 1) (x.i 2) (x.i 3))) with h1 | h1
  ·have nh1:=ieq_ne h1
   have hok:prtB x=false:=by simp only [prtB,bksB,h1,Bool.false_and,Bool.and_false]
   repeat' (first
    | with_reducible exact rfl
    | exact True.intro
    | with_reducible assumption
    | (simp only [hok];done)
    | refine And.intro ?_ ?_
    | apply Exists.intro
    | (refine fun (h:@Eq Bool _ _)=>?_;exfalso;first | (simp [h0,h1,nh1] at h;done) | (simp [h0,h1,nh1] at h;omega))
    | intro _
    | omega
    | exact rfl)
   all_goals exact false
  ·have nh1:=ieq_ne h1
   rcases bcase (ieq (x.t.n:Int) (bankN (x.i 0) (x.i 1) (x.i 2) (x.i 3))) with h2 | h2
   ·have nh2:=ieq_ne h2
    have hok:prtB x=false:=by simp only [prtB,bksB,h2,Bool.false_and,Bool.and_false]
    repeat' (first
     | with_reducible exact rfl
     | exact True.intro
     | with_reducible assumption
     | (simp only [hok];done)
     | refine And.intro ?_ ?_
     | apply Exists.intro
     | (refine fun (h:@Eq Bool _ _)=>?_;exfalso;first | (simp [h0,h1,nh1,h2,nh2] at h;done) | (simp [h0,h1,nh1,h2,nh2] at h;omega))
     | intro _
     | omega
     | exact rfl)
    all_goals exact false
   ·have nh2:=ieq_ne h2
    rcases bcase (ieq (x.n 11:Int) (bankN (x.i 0) (x.i 1) (x.i 2) (x.i 3))) with h3 | h3
    ·have nh3:=ieq_ne h3
     have hok:prtB x=false:=by simp only [prtB,bksB,h3,Bool.false_and,Bool.and_false]
     repeat' (first
      | with_reducible exact rfl
      | exact True.intro
      | with_reducible assumption
      | (simp only [hok];done)
      | refine And.intro ?_ ?_
      | apply Exists.intro
      | (refine fun (h:@Eq Bool _ _)=>?_;exfalso;first | (simp [h0,h1,nh1,h2,nh2,h3,nh3] at h;done) | (simp [h0,h1,nh1,h2,nh2,h3,nh3] at h;omega))
      | intro _
      | omega
      | exact rfl)
     all_goals exact false
    ·have nh3:=ieq_ne h3
     rcases Classical.em (¬ ((x.n 12:Int)≤128)) with h4 | h4
     ·have hok:prtB x=false:=by simp only [prtB,bksB,decide_eq_false h4,Bool.false_and,Bool.and_false]
      repeat' (first
       | with_reducible exact rfl
       | exact True.intro
       | with_reducible assumption
       | (simp only [hok];done)
       | refine And.intro ?_ ?_
       | apply Exists.intro
       | (refine fun (h:@Eq Bool _ _)=>?_;exfalso;first | (simp [h0,h1,nh1,h2,nh2,h3,nh3,h4] at h;done) | (simp [h0,h1,nh1,h2,nh2,h3,nh3,h4] at h;omega))
       | intro _
       | omega
       | exact rfl)
      all_goals exact false
     ·replace h4:=Classical.not_not.1 h4
      have hbk:bkC x:=⟨(eq_of_beq h2).symm,by have q1:=eq_of_beq h2;have q2:=eq_of_beq h3;omega⟩
      have hrd:prtB x=(allB (x.t.n) (fun j=>trkB (x.t.rn j) (x.t.ry j) (x.t.qn j) (x.t.qy j) (x.t.sp j)&&btw (x.g 11 0 j) 3 1000)&&allB (x.n 12) (fun j=>adOk (x.i 0) (x.i 1) (x.i 2) (x.i 3) (x.g 12 0 j) (x.g 12 1 j) (x.g 12 2 j)&&ieq (x.g 12 2 j) 0&&ieq (adI (x.n 12) (x.g 12) (x.g 12 0 j) (x.g 12 1 j) (x.g 12 2 j)) (j:Int))):=by simp only [prtB,bksB,h0,h1,h2,h3,decide_eq_true h4,Bool.true_and]
      repeat' (first
       | with_reducible exact rfl
       | exact True.intro
       | with_reducible assumption
       | exact hbk
       | (intro g (ha_:allB (x.t.n) _=true);have e1:allB (x.t.n) (fun j=>trkB (x.t.rn j) (x.t.ry j) (x.t.qn j) (x.t.qy j) (x.t.sp j)&&btw (x.g 11 0 j) 3 1000)=true:=hc1.symm.trans ha_;clear ha_)
       | (intro g (ha_:allB (x.n 12) _=true);have e2:allB (x.n 12) (fun j=>adOk (x.i 0) (x.i 1) (x.i 2) (x.i 3) (x.g 12 0 j) (x.g 12 1 j) (x.g 12 2 j)&&ieq (x.g 12 2 j) 0&&ieq (adI (x.n 12) (x.g 12) (x.g 12 0 j) (x.g 12 1 j) (x.g 12 2 j)) (j:Int))=true:=hc2.symm.trans ha_;clear ha_)
       | (intro g j hj ha hP;have e0_:allB (x.n 12) (fun j=>adOk (x.i 0) (x.i 1) (x.i 2) (x.i 3) (x.g 12 0 j) (x.g 12 1 j) (x.g 12 2 j)&&ieq (x.g 12 2 j) 0&&ieq (adI (x.n 12) (x.g 12) (x.g 12 0 j) (x.g 12 1 j) (x.g 12 2 j)) (j:Int))=false:=hc2.symm.trans (allB_no (p:=fun j=>adOk (x.i 0) (x.i 1) (x.i 2) (x.i 3) (x.g 12 0 j) (x.g 12 1 j) (x.g 12 2 j)&&ieq (x.g 12 2 j) 0&&ieq (adI (x.n 12) (x.g 12) (x.g 12 0 j) (x.g 12 1 j) (x.g 12 2 j)) (j:Int)) hj hP);exact congrArg Value.bool (by rw [hrd,e0_,e1];rfl))
       | (intro g j hj ha hP;have e0_:allB (x.t.n) (fun j=>trkB (x.t.rn j) (x.t.ry j) (x.t.qn j) (x.t.qy j) (x.t.sp j)&&btw (x.g 11 0 j) 3 1000)=false:=hc1.symm.trans (allB_no (p:=fun j=>trkB (x.t.rn j) (x.t.ry j) (x.t.qn j) (x.t.qy j) (x.t.sp j)&&btw (x.g 11 0 j) 3 1000) hj hP);exact congrArg Value.bool (by rw [hrd,e0_];rfl))
       | (exact congrArg Value.bool (by rw [hrd,e1,e2];rfl))
       | (show @Eq (List _) _ _;exact rfl)
       | refine And.intro ?_ ?_
       | apply Exists.intro
       | (refine fun (h:@Eq Bool _ _)=>?_;exfalso;first | (simp [h0,h1,nh1,h2,nh2,h3,nh3,h4] at h;done) | (simp [h0,h1,nh1,h2,nh2,h3,nh3,h4] at h;omega))
       | intro _
       | omega
       | exact rfl)
def sPrtI (x:CtD)(o:Nat→Option Addr)(q:Nat→Nat)(so:Nat→Option Addr)(sc:Nat→Nat)(uo:Nat→Option Addr)(uc:Nat→Nat)(vo:Nat→Option Addr)(vc:Nat→Nat):Sm:=fun args ch k=>(args=[.a (.agg (ctS 0 x o q))]∧selC ch [0,1,2,3,4,5,6,7,8,9,10,11,12,13,14,15,16,17,18,19,20]=ctR 0 x o q so sc uo uc vo vc∧capCt x)∧k (.a (.c (.bool (prtB x)))) ch []
theorem sPrtI_ok (x:CtD)(o:Nat→Option Addr)(q:Nat→Nat)(so:Nat→Option Addr)(sc:Nat→Nat)(uo:Nat→Option Addr)(uc:Nat→Nat)(vo:Nat→Option Addr)(vc:Nat→Nat):SmOK Tryz.prog 66 (sPrtI x o q so sc uo uc vo vc):=by
 refine smB Tryz.call66 fun args ch k w X h0 hs=>?_
 obtain ⟨⟨rfl,hc,hcap⟩,h0⟩:=h0
 refine ⟨_,h0,?_⟩
 have hs2:=hs.sel [0,1,2,3,4,5,6,7,8,9,10,11,12,13,14,15,16,17,18,19,20] (by simp)
 rw [hc] at hs2
 refine prtI_any x o q so sc uo uc vo vc w (fun c hcm=>?_) hcap
 obtain ⟨i,hi⟩:=List.getElem?_of_mem hcm
 refine ⟨?_,hs2.sat i c hi⟩
 simp only [ctR,List.mem_cons,List.not_mem_nil,or_false] at hcm
 rcases hcm with rfl | rfl | rfl | rfl | rfl | rfl | rfl | rfl | rfl | rfl | rfl | rfl | rfl | rfl | rfl | rfl | rfl | rfl | rfl | rfl | rfl <;> rfl
def sbkqS (x:CtD)(o:Nat→Option Addr)(q:Nat→Nat)(so:Nat→Option Addr)(sc:Nat→Nat)(uo:Nat→Option Addr)(uc:Nat→Nat)(vo:Nat→Option Addr)(vc:Nat→Nat):LSm:=fun ts ch kk=>bkC x∧sbkTSw x o q so sc uo uc vo vc ts ch kk
theorem bkqS_ok (x:CtD)(o:Nat→Option Addr)(q:Nat→Nat)(so:Nat→Option Addr)(sc:Nat→Nat)(uo:Nat→Option Addr)(uc:Nat→Nat)(vo:Nat→Option Addr)(vc:Nat→Nat)(hcap:capCt x)(X:Cx):LoopOK Tryz.prog X (theLoop Tryz.f34 0) (sbkqS x o q so sc uo uc vo vc):=by
 rintro ts ch kk a w ⟨hm,h⟩ hT hd hs
 exact bkTSw_ok x o q so sc uo uc vo vc hcap hm X ts ch kk a w h hT hd hs
theorem prtS_T (x:CtD)(o:Nat→Option Addr)(q:Nat→Nat)(so:Nat→Option Addr)(sc:Nat→Nat)(uo:Nat→Option Addr)(uc:Nat→Nat)(vo:Nat→Option Addr)(vc:Nat→Nat):(exFn Tryz.prog {tb:=[(102,sBank)],L:=[(5,sbkqS x o q so sc uo uc vo vc),(10,sbkPSw x o q so sc uo uc vo vc)]} 400 Tryz.f34 ([.a (.agg (ctS 0 x o q))]) (ctR 0 x o q so sc uo uc vo vc) (fun y_ _=>y_.den=.bool (bksB x)))=(
 (fun b:Value=>(fun c:Value=>(fun d:Value=>(fun g:Value=>(fun h:Value=>(fun j:Value=>(fun k:Value=>(fun l:Value=>(fun m:Int=>(fun n:Value=>(fun p:Ch=>(fun r:Bool=>(fun s:Value=>(fun t:Ch=>(fun u:Ch=>(fun v:Ch=>(fun w:Ch=>(fun y:Ch=>(fun z:Ch=>(fun B:Ch=>(fun C:Ch=>(fun D:Value=>(fun E:Ch=>(fun F:Bool=>(fun G:Bool=>(fun H:Bool=>(fun I:Value=>(fun J:Value=>(fun K:Value=>(fun M:Ch=>(fun N:Ch=>(fun O:Ch=>(fun P:Ch=>(fun Q:Ch=>(fun R:Ch=>(fun S:Ch=>(fun T:Ch=>(fun U:Ch=>(fun V:Ch=>(fun W:Ch=>(fun X:Value=>(fun Y:List SC=>∀ Z:Nat,(fun aa:Value=>Z=Z∧Z=Z∧(G=false→Z=Z∧(F=false→Z=Z∧(H=false→Z=Z∧(r=true→c=d)∧(r=false→bkC x∧∃ ab:Nat,([X,aa,c,n,Wi 0,b,b,aa,aa,D,n,Wp Z 55,Wp Z 55,h,Wi (((x.3 9):Nat):Int),n,J,c,Wp Z 58,g,j,n,I,I,c,Wp Z 59,l,Wi (((x.3 11):Nat):Int),n,K,K,c,Wp Z 60,k,Wi (((x.3 12):Nat):Int),s,c,b,b,b,b,b,b,b,b,b,b,b,b,b,b,b,b,b,b,b,b,b,b,b,b,b,b,b,b,b,b,b,b,b,b,b,b,b,b,b,b,b,b,b,b,b,b,b,b,b,b,b,b]=[X,Wp ab 0,c,n,Wi 0,b,b,aa,aa,D,n,Wp Z 55,Wp Z 55,h,Wi (((x.3 9):Nat):Int),n,J,c,Wp Z 58,g,j,n,I,I,c,Wp Z 59,l,Wi (((x.3 11):Nat):Int),n,K,K,c,Wp Z 60,k,Wi (((x.3 12):Nat):Int),s,c,b,b,b,b,b,b,b,b,b,b,b,b,b,b,b,b,b,b,b,b,b,b,b,b,b,b,b,b,b,b,b,b,b,b,b,b,b,b,b,b,b,b,b,b,b,b,b,b,b,b,b,b]∧[C,B,O,z,y,Q,w,v,u,t,T,E,S,W,P,R,V,U,p,N,M,Hc Z 99 Y]=[C,B,O,z,y,Q,w,v,u,t,T,E,S,W,P,R,V,U,p,N,M,Hc ab 99 Y])∧(∀ ac:Nat→Value,(allB x.7.1 (bkTSP x o q so sc uo uc vo vc ab))=true→∃ ad:Nat,([ac 0,Wp ab 0,ac 2,n,j,Wi 0,ac 6,ac 7,ac 8,ac 9,ac 10,ac 11,ac 12,ac 13,ac 14,ac 15,ac 16,ac 17,ac 18,ac 19,ac 20,ac 21,ac 22,ac 23,ac 24,ac 25,ac 26,ac 27,ac 28,ac 29,ac 30,ac 31,ac 32,ac 33,ac 34,ac 35,ac 36,ac 37,ac 38,ac 39,ac 40,ac 41,ac 42,ac 43,ac 44,ac 45,ac 46,ac 47,ac 48,ac 49,ac 50,ac 51,ac 52,ac 53,ac 54,ac 55,ac 56,ac 57,ac 58,ac 59,ac 60,ac 61,ac 62,ac 63,ac 64,ac 65,ac 66,ac 67,ac 68,ac 69,ac 70,ac 71,ac 72,ac 73,ac 74,ac 75,ac 76,ac 77,ac 78,ac 79,ac 80,ac 81,ac 82,ac 83,ac 84,ac 85,ac 86,ac 87,ac 88]=[ac 0,Wp ad 0,ac 2,n,j,Wi 0,ac 6,ac 7,ac 8,ac 9,ac 10,ac 11,ac 12,ac 13,ac 14,ac 15,ac 16,ac 17,ac 18,ac 19,ac 20,ac 21,ac 22,ac 23,ac 24,ac 25,ac 26,ac 27,ac 28,ac 29,ac 30,ac 31,ac 32,ac 33,ac 34,ac 35,ac 36,ac 37,ac 38,ac 39,ac 40,ac 41,ac 42,ac 43,ac 44,ac 45,ac 46,ac 47,ac 48,ac 49,ac 50,ac 51,ac 52,ac 53,ac 54,ac 55,ac 56,ac 57,ac 58,ac 59,ac 60,ac 61,ac 62,ac 63,ac 64,ac 65,ac 66,ac 67,ac 68,ac 69,ac 70,ac 71,ac 72,ac 73,ac 74,ac 75,ac 76,ac 77,ac 78,ac 79,ac 80,ac 81,ac 82,ac 83,ac 84,ac 85,ac 86,ac 87,ac 88]∧[C,B,O,z,y,Q,w,v,u,t,T,E,S,W,P,R,V,U,p,N,M,Hc ab 99 Y]=[C,B,O,z,y,Q,w,v,u,t,T,E,S,W,P,R,V,U,p,N,M,Hc ad 99 Y])∧(∀ af:Nat→Value,(allB (x.3 12) (bkPSP x o q so sc uo uc vo vc ad))=true→(Wb true)=d)∧∀(af:Nat→Value) (ag:Nat),ag<(x.3 12)→(allB ag (bkPSP x o q so sc uo uc vo vc ad))=true→(bkPSP x o q so sc uo uc vo vc ad ag)=false→c=d)∧∀(ac:Nat→Value) (ad:Nat),ad<x.7.1→(allB ad (bkTSP x o q so sc uo uc vo vc ab))=true→(bkTSP x o q so sc uo uc vo vc ab ad)=false→c=d))∧(H=true→c=d))∧(F=true→c=d))∧(G=true→c=d)) (Wp Z 0)) [Ci (x.1 0),Ci (x.1 1),Ci (x.1 2),Ci (x.1 3),Ci (x.1 4),Ci (x.1 5),Ci (x.1 6),Ci (x.1 7),Ci (x.1 8),Ci (x.1 9),Ci (x.1 10),Ci (x.1 11),Ci (x.1 12),Ci (x.1 13),Ci (x.1 14),Ci (x.1 15),Ci (x.1 16),Ci (x.1 17),Ci (x.1 18),Ci (x.1 19),Ci (x.1 20),Ci (x.1 21),Cb (x.2 0),Ci (x.1 22),Ci (x.1 23),Ci (x.1 24),Ci (x.1 25),Ci (x.1 26),Ci (x.1 27),Ci (x.1 28),Ci (x.1 29),Ci (x.1 30),Ci (x.1 31),Cs 0 (o 0) (x.3 0) (q 0),Ci (x.1 32),Ci (x.1 33),Ci (x.1 34),Ci (x.1 35),Ci (x.1 36),Ci (x.1 37),Ci (x.1 38),Cs 1 (o 1) (x.3 1) (q 1),Ci (x.1 39),Ci (x.1 40),Cb (x.2 1),Ci (x.1 41),Cs 2 (o 2) (x.3 2) (q 2),Ci (x.1 42),Cs 3 (o 3) (x.3 3) (q 3),Cs 4 (o 4) (x.3 4) (q 4),Cs 5 (o 5) x.6.1 (q 5),Cs 6 (o 6) (x.3 6) (q 6),Cs 7 (o 7) (x.3 7) (q 7),Ci (x.1 43),Cs 8 (o 8) (x.3 8) (q 8),Cs 9 (o 9) (x.3 9) (q 9),Ci (x.1 44),Cb (x.2 2),Cs 10 (o 10) x.7.1 (q 10),Cs 11 (o 11) (x.3 11) (q 11),Cs 12 (o 12) (x.3 12) (q 12),Cs 13 (o 13) (x.3 13) (q 13),Cs 14 (o 14) (x.3 14) (q 14),Cb (x.2 3),Ci (x.1 45),Ci (x.1 46),Ci (x.1 47),Ci (x.1 48),Ci (x.1 49),Ci (x.1 50),Ci (x.1 51),Ci (x.1 52),Cs 15 (o 15) (x.3 15) (q 15),Cs 16 (o 16) (x.3 16) (q 16),Cs 17 (o 17) (x.3 17) (q 17)]) (Wa [Wi (x.1 0),Wi (x.1 1),Wi (x.1 2),Wi (x.1 3),Wi (x.1 4),Wi (x.1 5),Wi (x.1 6),Wi (x.1 7),Wi (x.1 8),Wi (x.1 9),Wi (x.1 10),Wi (x.1 11),Wi (x.1 12),Wi (x.1 13),Wi (x.1 14),Wi (x.1 15),Wi (x.1 16),Wi (x.1 17),Wi (x.1 18),Wi (x.1 19),Wi (x.1 20),Wi (x.1 21),Wb (x.2 0),Wi (x.1 22),Wi (x.1 23),Wi (x.1 24),Wi (x.1 25),Wi (x.1 26),Wi (x.1 27),Wi (x.1 28),Wi (x.1 29),Wi (x.1 30),Wi (x.1 31),Ws (o 0) (x.3 0) (q 0),Wi (x.1 32),Wi (x.1 33),Wi (x.1 34),Wi (x.1 35),Wi (x.1 36),Wi (x.1 37),Wi (x.1 38),Ws (o 1) (x.3 1) (q 1),Wi (x.1 39),Wi (x.1 40),Wb (x.2 1),Wi (x.1 41),Ws (o 2) (x.3 2) (q 2),Wi (x.1 42),Ws (o 3) (x.3 3) (q 3),Ws (o 4) (x.3 4) (q 4),Ws (o 5) x.6.1 (q 5),Ws (o 6) (x.3 6) (q 6),Ws (o 7) (x.3 7) (q 7),Wi (x.1 43),Ws (o 8) (x.3 8) (q 8),h,Wi (x.1 44),Wb (x.2 2),g,l,k,Ws (o 13) (x.3 13) (q 13),Ws (o 14) (x.3 14) (q 14),Wb (x.2 3),Wi (x.1 45),Wi (x.1 46),Wi (x.1 47),Wi (x.1 48),Wi (x.1 49),Wi (x.1 50),Wi (x.1 51),Wi (x.1 52),Ws (o 15) (x.3 15) (q 15),Ws (o 16) (x.3 16) (q 16),Ws (o 17) (x.3 17) (q 17)])) (Hr false (o 13) 0 6 (x.3 13) 0 [fun W=>Ci (x.4 13 0 W),fun W=>Ci (x.4 13 1 W),fun W=>Ci (x.4 13 2 W),fun W=>Cb (x.5 13 3 W),fun W=>Ci (x.4 13 4 W),fun W=>Ci (x.4 13 5 W)])) (Hr false (o 16) 0 5 (x.3 16) 0 [fun V=>Ci (x.4 16 0 V),fun V=>Ci (x.4 16 1 V),fun V=>Ci (x.4 16 2 V),fun V=>Ci (x.4 16 3 V),fun V=>Ci (x.4 16 4 V)])) (Hr false (o 17) 0 4 (x.3 17) 0 [fun U=>Ci (x.4 17 0 U),fun U=>Ci (x.4 17 1 U),fun U=>Ci (x.4 17 2 U),fun U=>Ci (x.4 17 3 U)])) (Hr false (o 10) 0 3 x.7.1 0 [fun T=>Cs 19 (uo T) (x.7.2 T) (uc T),fun T=>Cs 20 (vo T) (x.7.4 T) (vc T),fun T=>Ci (x.7.6 T)])) (Hr false (o 12) 0 3 (x.3 12) 0 [fun S=>Ci (x.4 12 0 S),fun S=>Ci (x.4 12 1 S),fun S=>Ci (x.4 12 2 S)])) (Hr false (o 15) 0 3 (x.3 15) 0 [fun R=>Ci (x.4 15 0 R),fun R=>Ci (x.4 15 1 R),fun R=>Ci (x.4 15 2 R)])) (Hr false (o 5) 0 2 x.6.1 0 [fun Q=>Cs 18 (so Q) (x.6.2 Q) (sc Q),fun Q=>Cb (x.6.4 Q)])) (Hr false (o 14) 0 2 (x.3 14) 0 [fun P=>Ci (x.4 14 0 P),fun P=>Ci (x.4 14 1 P)])) (Hr false (o 2) 0 2 (x.3 2) 0 [fun O=>Cb (x.5 2 0 O),fun O=>Ci (x.4 2 1 O)])) (Ho false (symRows false 0 (CD.mk x.7.1 x.7.2 x.7.3 (fun N=>false)) uo (fun N=>0)))) (Ho false (symRows false 0 (CD.mk x.7.1 x.7.4 x.7.5 (fun M=>false)) vo (fun M=>0)))) (Wb H)) (Wb G)) (Wb F)) ((((x.3 11):Nat):Int) != m)) ((((x.3 9):Nat):Int) != m)) (((x.7.1:Nat):Int) != m)) (Hr false (o 11) 0 1 (x.3 11) 0 [fun E=>Ci (x.4 11 0 E)])) (Wa [Wi (x.1 0),Wi (x.1 1),Wi (x.1 2),Wi (x.1 3)])) (Hr false (o 0) 0 1 (x.3 0) 0 [fun C=>Ci (x.4 0 0 C)])) (Hr false (o 1) 0 1 (x.3 1) 0 [fun B=>Ci (x.4 1 0 B)])) (Hr false (o 3) 0 1 (x.3 3) 0 [fun z=>Ci (x.4 3 0 z)])) (Hr false (o 4) 0 1 (x.3 4) 0 [fun y=>Ci (x.4 4 0 y)])) (Hr false (o 6) 0 1 (x.3 6) 0 [fun w=>Ci (x.4 6 0 w)])) (Hr false (o 7) 0 1 (x.3 7) 0 [fun v=>Ci (x.4 7 0 v)])) (Hr false (o 8) 0 1 (x.3 8) 0 [fun u=>Ci (x.4 8 0 u)])) (Hr false (o 9) 0 1 (x.3 9) 0 [fun t=>Ci (x.4 9 0 t)])) (Wb r)) (decide ((((x.3 12):Nat):Int) > (128:Int)))) (Ho false (symRows false 0 x.6 so (fun p=>0)))) (Wi m)) (bankN (x.1 0) (x.1 1) (x.1 2) (x.1 3))) (Ws (o 11) (x.3 11) (q 11))) (Ws (o 12) (x.3 12) (q 12))) (Wi ((x.7.1:Nat):Int))) (Ws (o 9) (x.3 9) (q 9))) (Ws (o 10) x.7.1 (q 10))) (Wb (bksB x))) (Wb false)) (Wu [])):=by kernel_rfl
theorem prtS_any (x:CtD)(o:Nat→Option Addr)(q:Nat→Nat)(so:Nat→Option Addr)(sc:Nat→Nat)(uo:Nat→Option Addr)(uc:Nat→Nat)(vo:Nat→Option Addr)(vc:Nat→Nat)(w:World)(hA:∀ c∈ctR 0 x o q so sc uo uc vo vc,c.own=false∧c.sat w)(hcap:capCt x):Calls Tryz.prog 34 #[ctV x o q] w fun e w'=>e=.returned (.bool (bksB x))∧Below w.heap.size w w':=by
 refine fn_ok mixed (E:={tb:=[(102,sBank)],L:=[(5,sbkqS x o q so sc uo uc vo vc),(10,sbkPSw x o q so sc uo uc vo vc)]}) ⟨sBank_S,trivial⟩ Tryz.func34 (two_loops (by kernel_rfl) (by decide) (bkqS_ok x o q so sc uo uc vo vc hcap _) (bkPSw_ok x o q so sc uo uc vo vc hcap _)) (@Eq.mpr _ _ (prtS_T x o q so sc uo uc vo vc) ?_) (HS.seenAll (fun _=>False) _ hA) (fun v ch' w' hv hs=>⟨by rw [hv],hs.below⟩)
 dsimp -zeta -proj -iota -eta -failIfUnchanged (etaStruct:=.none) only
 clear hA
 have hl9:lenC (x.n 9):=by have h:x.n 9≤2097152:=hcap.1.2.2.2.2.2.2.2.2.1;show _≤_;omega
 have hp1:x.n 12≤2097152:=hcap.1.2.2.2.2.2.2.2.2.2.2.1
 clear hcap
 have hc1:allB (x.t.n) (fun j=>trkB (x.t.rn j) (x.t.ry j) (x.t.qn j) (x.t.qy j) (x.t.sp j)&&btw (x.g 11 0 j) 3 1000)=allB (x.t.n) (fun j=>trkB (x.t.rn j) (x.t.ry j) (x.t.qn j) (x.t.qy j) (x.t.sp j)&&btw (x.g 11 0 j) 3 1000):=rfl
 have hc2:allB (x.n 12) (fun j=>adOk (x.i 0) (x.i 1) (x.i 2) (x.i 3) (x.g 12 0 j) (x.g 12 1 j) (x.g 12 2 j)&&ieq (x.g 12 2 j) 0&&ieq (adI (x.n 12) (x.g 12) (x.g 12 0 j) (x.g 12 1 j) (x.g 12 2 j)) (j:Int))=allB (x.n 12) (fun j=>adOk (x.i 0) (x.i 1) (x.i 2) (x.i 3) (x.g 12 0 j) (x.g 12 1 j) (x.g 12 2 j)&&ieq (x.g 12 2 j) 0&&ieq (adI (x.n 12) (x.g 12) (x.g 12 0 j) (x.g 12 1 j) (x.g 12 2 j)) (j:Int)):=rfl
 rcases bcase (ieq (x.n 9:Int) (bankN (x.i 0) (x.i 1) (x.i 2) (x.i 3))) with h1 | h1
 ·have nh1:=ieq_ne h1
  have hok:bksB x=false:=by simp only [prtB,bksB,h1,Bool.false_and,Bool.and_false]
  repeat' (first
   | with_reducible exact rfl
   | exact True.intro
   | with_reducible assumption
   | (simp only [hok];done)
   | refine And.intro ?_ ?_
   | apply Exists.intro
   | (refine fun (h:@Eq Bool _ _)=>?_;exfalso;first | (simp [h1,nh1] at h;done) | (simp [h1,nh1] at h;omega))
   | intro _
   | omega
   | exact rfl)
  all_goals exact false
 ·have nh1:=ieq_ne h1
  rcases bcase (ieq (x.t.n:Int) (bankN (x.i 0) (x.i 1) (x.i 2) (x.i 3))) with h2 | h2
  ·have nh2:=ieq_ne h2
   have hok:bksB x=false:=by simp only [prtB,bksB,h2,Bool.false_and,Bool.and_false]
   repeat' (first
    | with_reducible exact rfl
    | exact True.intro
    | with_reducible assumption
    | (simp only [hok];done)
    | refine And.intro ?_ ?_
    | apply Exists.intro
    | (refine fun (h:@Eq Bool _ _)=>?_;exfalso;first | (simp [h1,nh1,h2,nh2] at h;done) | (simp [h1,nh1,h2,nh2] at h;omega))
    | intro _
    | omega
    | exact rfl)
   all_goals exact false
  ·have nh2:=ieq_ne h2
   rcases bcase (ieq (x.n 11:Int) (bankN (x.i 0) (x.i 1) (x.i 2) (x.i 3))) with h3 | h3
   ·have nh3:=ieq_ne h3
    have hok:bksB x=false:=by simp only [prtB,bksB,h3,Bool.false_and,Bool.and_false]
    repeat' (first
     | with_reducible exact rfl
     | exact True.intro
     | with_reducible assumption
     | (simp only [hok];done)
     | refine And.intro ?_ ?_
     | apply Exists.intro
     | (refine fun (h:@Eq Bool _ _)=>?_;exfalso;first | (simp [h1,nh1,h2,nh2,h3,nh3] at h;done) | (simp [h1,nh1,h2,nh2,h3,nh3] at h;omega))
     | intro _
     | omega
     | exact rfl)
    all_goals exact false
   ·have nh3:=ieq_ne h3
    rcases Classical.em (¬ ((x.n 12:Int)≤128)) with h4 | h4
    ·have hok:bksB x=false:=by simp only [prtB,bksB,decide_eq_false h4,Bool.false_and,Bool.and_false]
     repeat' (first
      | with_reducible exact rfl
      | exact True.intro
      | with_reducible assumption
      | (simp only [hok];done)
      | refine And.intro ?_ ?_
      | apply Exists.intro
      | (refine fun (h:@Eq Bool _ _)=>?_;exfalso;first | (simp [h1,nh1,h2,nh2,h3,nh3,h4] at h;done) | (simp [h1,nh1,h2,nh2,h3,nh3,h4] at h;omega))
      | intro _
      | omega
      | exact rfl)
     all_goals exact false
    ·replace h4:=Classical.not_not.1 h4
     have hbk:bkC x:=⟨(eq_of_beq h2).symm,by have q1:=eq_of_beq h2;have q2:=eq_of_beq h3;omega⟩
     have hrd:bksB x=(allB (x.t.n) (fun j=>trkB (x.t.rn j) (x.t.ry j) (x.t.qn j) (x.t.qy j) (x.t.sp j)&&btw (x.g 11 0 j) 3 1000)&&allB (x.n 12) (fun j=>adOk (x.i 0) (x.i 1) (x.i 2) (x.i 3) (x.g 12 0 j) (x.g 12 1 j) (x.g 12 2 j)&&ieq (x.g 12 2 j) 0&&ieq (adI (x.n 12) (x.g 12) (x.g 12 0 j) (x.g 12 1 j) (x.g 12 2 j)) (j:Int))):=by simp only [prtB,bksB,h1,h2,h3,decide_eq_true h4,Bool.true_and]
     repeat' (first
      | with_reducible exact rfl
      | exact True.intro
      | with_reducible assumption
      | exact hbk
      | (intro g (ha_:allB (x.t.n) _=true);have e1:allB (x.t.n) (fun j=>trkB (x.t.rn j) (x.t.ry j) (x.t.qn j) (x.t.qy j) (x.t.sp j)&&btw (x.g 11 0 j) 3 1000)=true:=hc1.symm.trans ha_;clear ha_)
      | (intro g (ha_:allB (x.n 12) _=true);have e2:allB (x.n 12) (fun j=>adOk (x.i 0) (x.i 1) (x.i 2) (x.i 3) (x.g 12 0 j) (x.g 12 1 j) (x.g 12 2 j)&&ieq (x.g 12 2 j) 0&&ieq (adI (x.n 12) (x.g 12) (x.g 12 0 j) (x.g 12 1 j) (x.g 12 2 j)) (j:Int))=true:=hc2.symm.trans ha_;clear ha_)
      | (intro g j hj ha hP;have e0_:allB (x.n 12) (fun j=>adOk (x.i 0) (x.i 1) (x.i 2) (x.i 3) (x.g 12 0 j) (x.g 12 1 j) (x.g 12 2 j)&&ieq (x.g 12 2 j) 0&&ieq (adI (x.n 12) (x.g 12) (x.g 12 0 j) (x.g 12 1 j) (x.g 12 2 j)) (j:Int))=false:=hc2.symm.trans (allB_no (p:=fun j=>adOk (x.i 0) (x.i 1) (x.i 2) (x.i 3) (x.g 12 0 j) (x.g 12 1 j) (x.g 12 2 j)&&ieq (x.g 12 2 j) 0&&ieq (adI (x.n 12) (x.g 12) (x.g 12 0 j) (x.g 12 1 j) (x.g 12 2 j)) (j:Int)) hj hP);exact congrArg Value.bool (by rw [hrd,e0_,e1];rfl))
      | (intro g j hj ha hP;have e0_:allB (x.t.n) (fun j=>trkB (x.t.rn j) (x.t.ry j) (x.t.qn j) (x.t.qy j) (x.t.sp j)&&btw (x.g 11 0 j) 3 1000)=false:=hc1.symm.trans (allB_no (p:=fun j=>trkB (x.t.rn j) (x.t.ry j) (x.t.qn j) (x.t.qy j) (x.t.sp j)&&btw (x.g 11 0 j) 3 1000) hj hP);exact congrArg Value.bool (by rw [hrd,e0_];rfl))
      | (exact congrArg Value.bool (by rw [hrd,e1,e2];rfl))
      | (show @Eq (List _) _ _;exact rfl)
      | refine And.intro ?_ ?_
      | apply Exists.intro
      | (refine fun (h:@Eq Bool _ _)=>?_;exfalso;first | (simp [h1,nh1,h2,nh2,h3,nh3,h4] at h;done) | (simp [h1,nh1,h2,nh2,h3,nh3,h4] at h;omega))
      | intro _
      | omega
      | exact rfl)
def sPrtS (x:CtD)(o:Nat→Option Addr)(q:Nat→Nat)(so:Nat→Option Addr)(sc:Nat→Nat)(uo:Nat→Option Addr)(uc:Nat→Nat)(vo:Nat→Option Addr)(vc:Nat→Nat):Sm:=fun args ch k=>(args=[.a (.agg (ctS 0 x o q))]∧selC ch [0,1,2,3,4,5,6,7,8,9,10,11,12,13,14,15,16,17,18,19,20]=ctR 0 x o q so sc uo uc vo vc∧capCt x)∧k (.a (.c (.bool (bksB x)))) ch []
theorem sPrtS_ok (x:CtD)(o:Nat→Option Addr)(q:Nat→Nat)(so:Nat→Option Addr)(sc:Nat→Nat)(uo:Nat→Option Addr)(uc:Nat→Nat)(vo:Nat→Option Addr)(vc:Nat→Nat):SmOK Tryz.prog 34 (sPrtS x o q so sc uo uc vo vc):=by
 refine smB Tryz.call34 fun args ch k w X h0 hs=>?_
 obtain ⟨⟨rfl,hc,hcap⟩,h0⟩:=h0
 refine ⟨_,h0,?_⟩
 have hs2:=hs.sel [0,1,2,3,4,5,6,7,8,9,10,11,12,13,14,15,16,17,18,19,20] (by simp)
 rw [hc] at hs2
 refine prtS_any x o q so sc uo uc vo vc w (fun c hcm=>?_) hcap
 obtain ⟨i,hi⟩:=List.getElem?_of_mem hcm
 refine ⟨?_,hs2.sat i c hi⟩
 simp only [ctR,List.mem_cons,List.not_mem_nil,or_false] at hcm
 rcases hcm with rfl | rfl | rfl | rfl | rfl | rfl | rfl | rfl | rfl | rfl | rfl | rfl | rfl | rfl | rfl | rfl | rfl | rfl | rfl | rfl | rfl <;> rfl
def drB (dLow dHigh:Int):Bool:=decide (dLow ≥ 0)&&decide (dLow<dHigh)&&decide (dHigh≤12)
def powB (pState pSince pIdle:Int):Bool:=btw pState 0 2&&btw pSince 0 1000000&&btw pIdle 0 1000000
theorem drI_T (dOn:Bool)(dLow:Int)(dHigh:Int):(exFn Tryz.prog {tb:=[]} 400 Tryz.f71 ([.a (.agg [.bool dOn,.int dLow,.int dHigh])]) ([]) (fun v _=>v.den=.bool (drB dLow dHigh)))=(
 ∀ b:Nat,b=b∧((decide (dLow ≥ (0:Int)))=true→b=b∧b=b∧((decide (dLow<dHigh))=true→b=b∧(Wb (decide (dHigh≤(12:Int))))=(Wb (drB dLow dHigh)))∧((decide (dLow<dHigh))=false→(Wb false)=(Wb (drB dLow dHigh))))∧((decide (dLow ≥ (0:Int)))=false→(Wb false)=(Wb (drB dLow dHigh)))):=by kernel_rfl
theorem drI_any (dOn:Bool)(dLow:Int)(dHigh:Int)(w:World):Calls Tryz.prog 71 #[.agg #[.bool dOn,.int .i64 dLow,.int .i64 dHigh]] w fun e w'=>e=.returned (.bool (drB dLow dHigh))∧Below w.heap.size w w':=by
 refine fnB (tb:=[]) trivial Tryz.func71 (@Eq.mpr _ _ (drI_T dOn dLow dHigh) ?_) (HS.start w (fun _=>False)) (fun v ch' w' hk hs=>⟨by rw [hk],hs.below⟩)
 rcases bcase (decide (dLow ≥ 0)) with h1 | h1 <;> rcases bcase (decide (dLow<dHigh)) with h2 | h2 <;> rcases bcase (decide (dHigh≤12)) with h3 | h3
 all_goals
  repeat' (first | with_reducible exact rfl | exact True.intro | refine And.intro ?_ ?_ | intro _)
 all_goals (first | (exfalso;simp_all;done) | (simp only [drB,h1,h2,h3,Bool.true_and,Bool.and_true,Bool.false_and,Bool.and_false];done))
theorem drS_T (dOn:Bool)(dLow:Int)(dHigh:Int):(exFn Tryz.prog {tb:=[]} 400 Tryz.f39 ([.a (.agg [.bool dOn,.int dLow,.int dHigh])]) ([]) (fun v _=>v.den=.bool (drB dLow dHigh)))=(
 ∀ b:Nat,b=b∧((decide (dLow ≥ (0:Int)))=true→b=b∧((decide (dHigh≤(12:Int)))=true→b=b∧b=b∧(Wb (decide (dLow<dHigh)))=(Wb (drB dLow dHigh)))∧((decide (dHigh≤(12:Int)))=false→(Wb false)=(Wb (drB dLow dHigh))))∧((decide (dLow ≥ (0:Int)))=false→(Wb false)=(Wb (drB dLow dHigh)))):=by kernel_rfl
theorem drS_any (dOn:Bool)(dLow:Int)(dHigh:Int)(w:World):Calls Tryz.prog 39 #[.agg #[.bool dOn,.int .i64 dLow,.int .i64 dHigh]] w fun e w'=>e=.returned (.bool (drB dLow dHigh))∧Below w.heap.size w w':=by
 refine fnB (tb:=[]) trivial Tryz.func39 (@Eq.mpr _ _ (drS_T dOn dLow dHigh) ?_) (HS.start w (fun _=>False)) (fun v ch' w' hk hs=>⟨by rw [hk],hs.below⟩)
 rcases bcase (decide (dLow ≥ 0)) with h1 | h1 <;> rcases bcase (decide (dLow<dHigh)) with h2 | h2 <;> rcases bcase (decide (dHigh≤12)) with h3 | h3
 all_goals
  repeat' (first | with_reducible exact rfl | exact True.intro | refine And.intro ?_ ?_ | intro _)
 all_goals (first | (exfalso;simp_all;done) | (simp only [drB,h1,h2,h3,Bool.true_and,Bool.and_true,Bool.false_and,Bool.and_false];done))
def sDrB:Sm:=fun args ch kk =>
 match args with
 | [.a (.agg [c0,c1,c2])] =>
  match ints [c1,c2],bools [c0] with
  | some [dLow,dHigh],some [dOn]=>kk (.a (.c (.bool (drB dLow dHigh)))) ch []
  | _,_=>False
 | _=>False
theorem sDrB_ok {f:FuncId}(hc:∀ args w,(callFunc f args).run Tryz.prog w=.ok (.enter f args) w)(h:∀ (dOn:Bool) (dLow:Int) (dHigh:Int) (w:World),Calls Tryz.prog f #[.agg #[.bool dOn,.int .i64 dLow,.int .i64 dHigh]] w fun e w'=>e=.returned (.bool (drB dLow dHigh))∧Below w.heap.size w w'):SmOK Tryz.prog f sDrB:=by
 refine smB hc fun args ch kk w X h0 hs=>?_
 unfold sDrB at h0
 split at h0
 ·rename_i c0 c1 c2
  split at h0
  ·rename_i dLow dHigh dOn hi hb
   obtain ⟨ec1,hi⟩:=ints_cons hi
   obtain ⟨ec2,hi⟩:=ints_cons hi
   obtain ⟨ec0,hb⟩:=bools_cons hb
   refine ⟨_,h0,?_⟩
   simp only [List.map_cons,List.map_nil,den_a,den_c,SA.den,den_sl,ec1,ec2,ec0]
   exact h dOn dLow dHigh w
  ·exact h0.elim
 ·exact h0.elim
theorem sDrB_ok_drI:SmOK Tryz.prog 71 sDrB:=sDrB_ok Tryz.call71 (fun dOn dLow dHigh w=>drI_any dOn dLow dHigh w)
theorem sDrB_ok_drS:SmOK Tryz.prog 39 sDrB:=sDrB_ok Tryz.call39 (fun dOn dLow dHigh w=>drS_any dOn dLow dHigh w)
theorem pwI_T (pState:Int)(pSince:Int)(pIdle:Int):(exFn Tryz.prog {tb:=[(61,sBtw)]} 400 Tryz.f72 ([.a (.agg [.int pState,.int pSince,.int pIdle])]) ([]) (fun v _=>v.den=.bool (powB pState pSince pIdle)))=(
 ∀ b:Nat,b=b∧((btw pState (0:Int) (2:Int))=true→b=b∧((btw pSince (0:Int) (1000000:Int))=true→b=b∧(Wb (btw pIdle (0:Int) (1000000:Int)))=(Wb (powB pState pSince pIdle)))∧((btw pSince (0:Int) (1000000:Int))=false→(Wb false)=(Wb (powB pState pSince pIdle))))∧((btw pState (0:Int) (2:Int))=false→(Wb false)=(Wb (powB pState pSince pIdle)))):=by kernel_rfl
theorem pwI_any (pState:Int)(pSince:Int)(pIdle:Int)(w:World):Calls Tryz.prog 72 #[.agg #[.int .i64 pState,.int .i64 pSince,.int .i64 pIdle]] w fun e w'=>e=.returned (.bool (powB pState pSince pIdle))∧Below w.heap.size w w':=by
 refine fnB (tb:=[(61,sBtw)]) ⟨sBtwI_ok,trivial⟩ Tryz.func72 (@Eq.mpr _ _ (pwI_T pState pSince pIdle) ?_) (HS.start w (fun _=>False)) (fun v ch' w' hk hs=>⟨by rw [hk],hs.below⟩)
 repeat' (first | with_reducible exact rfl | exact True.intro | refine And.intro ?_ ?_ | intro _)
 all_goals (simp only [powB,ieq, *,Bool.true_and,Bool.and_true,Bool.false_and,Bool.and_false,Bool.true_or,Bool.or_true,Bool.false_or,Bool.or_false];done)
theorem pwS_T (pState:Int)(pSince:Int)(pIdle:Int):(exFn Tryz.prog {tb:=[(28,sBtw)]} 400 Tryz.f40 ([.a (.agg [.int pState,.int pSince,.int pIdle])]) ([]) (fun v _=>v.den=.bool (powB pState pSince pIdle)))=(
 ∀ b:Nat,b=b∧((btw pState (0:Int) (2:Int))=true→b=b∧((btw pSince (0:Int) (1000000:Int))=true→b=b∧(Wb (btw pIdle (0:Int) (1000000:Int)))=(Wb (powB pState pSince pIdle)))∧((btw pSince (0:Int) (1000000:Int))=false→(Wb false)=(Wb (powB pState pSince pIdle))))∧((btw pState (0:Int) (2:Int))=false→(Wb false)=(Wb (powB pState pSince pIdle)))):=by kernel_rfl
theorem pwS_any (pState:Int)(pSince:Int)(pIdle:Int)(w:World):Calls Tryz.prog 40 #[.agg #[.int .i64 pState,.int .i64 pSince,.int .i64 pIdle]] w fun e w'=>e=.returned (.bool (powB pState pSince pIdle))∧Below w.heap.size w w':=by
 refine fnB (tb:=[(28,sBtw)]) ⟨sBtwS_ok,trivial⟩ Tryz.func40 (@Eq.mpr _ _ (pwS_T pState pSince pIdle) ?_) (HS.start w (fun _=>False)) (fun v ch' w' hk hs=>⟨by rw [hk],hs.below⟩)
 repeat' (first | with_reducible exact rfl | exact True.intro | refine And.intro ?_ ?_ | intro _)
 all_goals (simp only [powB,ieq, *,Bool.true_and,Bool.and_true,Bool.false_and,Bool.and_false,Bool.true_or,Bool.or_true,Bool.false_or,Bool.or_false];done)
def sPwB:Sm:=fun args ch kk =>
 match args with
 | [.a (.agg [c0,c1,c2])] =>
  match ints [c0,c1,c2] with
  | some [pState,pSince,pIdle]=>kk (.a (.c (.bool (powB pState pSince pIdle)))) ch []
  | _=>False
 | _=>False
theorem sPwB_ok {f:FuncId}(hc:∀ args w,(callFunc f args).run Tryz.prog w=.ok (.enter f args) w)(h:∀ (pState:Int) (pSince:Int) (pIdle:Int) (w:World),Calls Tryz.prog f #[.agg #[.int .i64 pState,.int .i64 pSince,.int .i64 pIdle]] w fun e w'=>e=.returned (.bool (powB pState pSince pIdle))∧Below w.heap.size w w'):SmOK Tryz.prog f sPwB:=by
 refine smB hc fun args ch kk w X h0 hs=>?_
 unfold sPwB at h0
 split at h0
 ·rename_i c0 c1 c2
  split at h0
  ·rename_i pState pSince pIdle hi
   obtain ⟨ec0,hi⟩:=ints_cons hi
   obtain ⟨ec1,hi⟩:=ints_cons hi
   obtain ⟨ec2,hi⟩:=ints_cons hi
   refine ⟨_,h0,?_⟩
   simp only [List.map_cons,List.map_nil,den_a,den_c,SA.den,den_sl,ec0,ec1,ec2]
   exact h pState pSince pIdle w
  ·exact h0.elim
 ·exact h0.elim
theorem sPwB_ok_pwI:SmOK Tryz.prog 72 sPwB:=sPwB_ok Tryz.call72 (fun pState pSince pIdle w=>pwI_any pState pSince pIdle w)
theorem sPwB_ok_pwS:SmOK Tryz.prog 40 sPwB:=sPwB_ok Tryz.call40 (fun pState pSince pIdle w=>pwS_any pState pSince pIdle w)
def sFit:Sm:=fun args ch kk =>
 match args with
 | [.a (.agg [c0,c1,c2,c3,c4,c5,c6,c7,c8,c9,c10,c11,c12,c13,c14,c15,c16,c17,c18,c19,c20,c21,c22,c23,c24,c25,c26,c27]),.a (.agg [c28,c29,c30,c31,c32,.sl i0 a0 n0 d0,c33,c34])] =>
  match ch[i0]?,ints [c0,c1,c2,c3,c4,c5,c6,c7,c8,c9,c10,c11,c12,c13,c14,c15,c16,c17,c18,c19,c20,c21,c23,c24,c25,c26,c27,c28,c29,c30,c31,c32,c33,c34],bools [c22] with
  | some (.row r0),some (cGeometryGroups::cGeometryBanks::cGeometryRows::cGeometryCols::cTimingRCD::cTimingRP::cTimingRAS::cTimingRRDS::cTimingRRDL::cTimingFAW::cTimingCCDS::cTimingCCDL::cTimingRTP::cTimingWR::cTimingWTRS::cTimingWTRL::cTimingRTW::cTimingRFC::cTimingCKE::cTimingXP::cTimingXS::cMappingOrder::cSpares::cInterval::cTrack::cLimitsAge::cLimitsHits::pPage::pCap::pLimit::pLow::pHigh::pRuleDown::pRuleSleep::[]),some [cMappingHash]=>∃ pWeightsg0:Nat→Int,(a0=r0.ao∧n0=r0.n∧r0.fld=[fun i=>.int (pWeightsg0 i)]∧rngC cGeometryRows∧capC n0)∧kk (.a (.c (.bool (fitsP (cfgB cGeometryGroups cGeometryBanks cGeometryRows cGeometryCols cTimingRCD cTimingRP cTimingRAS cTimingRRDS cTimingRRDL cTimingFAW cTimingCCDS cTimingCCDL cTimingRTP cTimingWR cTimingWTRS cTimingWTRL cTimingRTW cTimingRFC cTimingCKE cTimingXP cTimingXS cMappingOrder cSpares cInterval cTrack cLimitsAge cLimitsHits cMappingHash) (polB pPage pCap pLimit pLow pHigh n0 pWeightsg0 pRuleDown pRuleSleep) cTrack cInterval cTimingRAS cTimingRP cLimitsHits pLimit)))) ch []
  | _,_,_=>False
 | _=>False
theorem sFit_ok {f:FuncId}(hc:∀ args w,(callFunc f args).run Tryz.prog w=.ok (.enter f args) w)(h:∀ (cGeometryGroups:Int) (cGeometryBanks:Int) (cGeometryRows:Int) (cGeometryCols:Int) (cTimingRCD:Int) (cTimingRP:Int) (cTimingRAS:Int) (cTimingRRDS:Int) (cTimingRRDL:Int) (cTimingFAW:Int) (cTimingCCDS:Int) (cTimingCCDL:Int) (cTimingRTP:Int) (cTimingWR:Int) (cTimingWTRS:Int) (cTimingWTRL:Int) (cTimingRTW:Int) (cTimingRFC:Int) (cTimingCKE:Int) (cTimingXP:Int) (cTimingXS:Int) (cMappingOrder:Int) (cMappingHash:Bool) (cSpares:Int) (cInterval:Int) (cTrack:Int) (cLimitsAge:Int) (cLimitsHits:Int) (pPage:Int) (pCap:Int) (pLimit:Int) (pLow:Int) (pHigh:Int) (pWeightsO:Option Addr) (pWeightsN pWeightsC:Nat) (pWeightsg0:Nat→Int) (pRuleDown:Int) (pRuleSleep:Int) (w:World),Row.sat w ⟨false,pWeightsO,0,1,pWeightsN,0,[fun i=>.int (pWeightsg0 i)]⟩→rngC cGeometryRows∧capC pWeightsN→Calls Tryz.prog f #[.agg #[.int .i64 cGeometryGroups,.int .i64 cGeometryBanks,.int .i64 cGeometryRows,.int .i64 cGeometryCols,.int .i64 cTimingRCD,.int .i64 cTimingRP,.int .i64 cTimingRAS,.int .i64 cTimingRRDS,.int .i64 cTimingRRDL,.int .i64 cTimingFAW,.int .i64 cTimingCCDS,.int .i64 cTimingCCDL,.int .i64 cTimingRTP,.int .i64 cTimingWR,.int .i64 cTimingWTRS,.int .i64 cTimingWTRL,.int .i64 cTimingRTW,.int .i64 cTimingRFC,.int .i64 cTimingCKE,.int .i64 cTimingXP,.int .i64 cTimingXS,.int .i64 cMappingOrder,.bool cMappingHash,.int .i64 cSpares,.int .i64 cInterval,.int .i64 cTrack,.int .i64 cLimitsAge,.int .i64 cLimitsHits],.agg #[.int .i64 pPage,.int .i64 pCap,.int .i64 pLimit,.int .i64 pLow,.int .i64 pHigh,.slice pWeightsO pWeightsN pWeightsC,.int .i64 pRuleDown,.int .i64 pRuleSleep]] w fun e w'=>e=.returned (.bool (fitsP (cfgB cGeometryGroups cGeometryBanks cGeometryRows cGeometryCols cTimingRCD cTimingRP cTimingRAS cTimingRRDS cTimingRRDL cTimingFAW cTimingCCDS cTimingCCDL cTimingRTP cTimingWR cTimingWTRS cTimingWTRL cTimingRTW cTimingRFC cTimingCKE cTimingXP cTimingXS cMappingOrder cSpares cInterval cTrack cLimitsAge cLimitsHits cMappingHash) (polB pPage pCap pLimit pLow pHigh pWeightsN pWeightsg0 pRuleDown pRuleSleep) cTrack cInterval cTimingRAS cTimingRP cLimitsHits pLimit))∧Below w.heap.size w w'):SmOK Tryz.prog f sFit:=by
 refine smB hc fun args ch kk w X h0 hs=>?_
 unfold sFit at h0
 split at h0
 ·rename_i c0 c1 c2 c3 c4 c5 c6 c7 c8 c9 c10 c11 c12 c13 c14 c15 c16 c17 c18 c19 c20 c21 c22 c23 c24 c25 c26 c27 c28 c29 c30 c31 c32 i0 a0 n0 d0 c33 c34
  split at h0
  ·rename_i r0 cGeometryGroups cGeometryBanks cGeometryRows cGeometryCols cTimingRCD cTimingRP cTimingRAS cTimingRRDS cTimingRRDL cTimingFAW cTimingCCDS cTimingCCDL cTimingRTP cTimingWR cTimingWTRS cTimingWTRL cTimingRTW cTimingRFC cTimingCKE cTimingXP cTimingXS cMappingOrder cSpares cInterval cTrack cLimitsAge cLimitsHits pPage pCap pLimit pLow pHigh pRuleDown pRuleSleep cMappingHash hr0 hi hb
   obtain ⟨pWeightsg0,⟨rfl,rfl,hf0,hpre⟩,h0⟩:=h0
   obtain ⟨ec0,hi⟩:=ints_cons hi
   obtain ⟨ec1,hi⟩:=ints_cons hi
   obtain ⟨ec2,hi⟩:=ints_cons hi
   obtain ⟨ec3,hi⟩:=ints_cons hi
   obtain ⟨ec4,hi⟩:=ints_cons hi
   obtain ⟨ec5,hi⟩:=ints_cons hi
   obtain ⟨ec6,hi⟩:=ints_cons hi
   obtain ⟨ec7,hi⟩:=ints_cons hi
   obtain ⟨ec8,hi⟩:=ints_cons hi
   obtain ⟨ec9,hi⟩:=ints_cons hi
   obtain ⟨ec10,hi⟩:=ints_cons hi
   obtain ⟨ec11,hi⟩:=ints_cons hi
   obtain ⟨ec12,hi⟩:=ints_cons hi
   obtain ⟨ec13,hi⟩:=ints_cons hi
   obtain ⟨ec14,hi⟩:=ints_cons hi
   obtain ⟨ec15,hi⟩:=ints_cons hi
   obtain ⟨ec16,hi⟩:=ints_cons hi
   obtain ⟨ec17,hi⟩:=ints_cons hi
   obtain ⟨ec18,hi⟩:=ints_cons hi
   obtain ⟨ec19,hi⟩:=ints_cons hi
   obtain ⟨ec20,hi⟩:=ints_cons hi
   obtain ⟨ec21,hi⟩:=ints_cons hi
   obtain ⟨ec23,hi⟩:=ints_cons hi
   obtain ⟨ec24,hi⟩:=ints_cons hi
   obtain ⟨ec25,hi⟩:=ints_cons hi
   obtain ⟨ec26,hi⟩:=ints_cons hi
   obtain ⟨ec27,hi⟩:=ints_cons hi
   obtain ⟨ec28,hi⟩:=ints_cons hi
   obtain ⟨ec29,hi⟩:=ints_cons hi
   obtain ⟨ec30,hi⟩:=ints_cons hi
   obtain ⟨ec31,hi⟩:=ints_cons hi
   obtain ⟨ec32,hi⟩:=ints_cons hi
   obtain ⟨ec33,hi⟩:=ints_cons hi
   obtain ⟨ec34,hi⟩:=ints_cons hi
   obtain ⟨ec22,hb⟩:=bools_cons hb
   refine ⟨_,h0,?_⟩
   simp only [List.map_cons,List.map_nil,den_a,den_c,SA.den,den_sl,ec0,ec1,ec2,ec3,ec4,ec5,ec6,ec7,ec8,ec9,ec10,ec11,ec12,ec13,ec14,ec15,ec16,ec17,ec18,ec19,ec20,ec21,ec23,ec24,ec25,ec26,ec27,ec28,ec29,ec30,ec31,ec32,ec33,ec34,ec22]
   exact h cGeometryGroups cGeometryBanks cGeometryRows cGeometryCols cTimingRCD cTimingRP cTimingRAS cTimingRRDS cTimingRRDL cTimingFAW cTimingCCDS cTimingCCDL cTimingRTP cTimingWR cTimingWTRS cTimingWTRL cTimingRTW cTimingRFC cTimingCKE cTimingXP cTimingXS cMappingOrder cMappingHash cSpares cInterval cTrack cLimitsAge cLimitsHits pPage pCap pLimit pLow pHigh r0.ao r0.n d0 pWeightsg0 pRuleDown pRuleSleep w (Row.seenAs (hs.sat i0 _ hr0) hf0 rfl) hpre
  ·exact h0.elim
 ·exact h0.elim
theorem sFit_ok_fitI:SmOK Tryz.prog 60 sFit:=sFit_ok Tryz.call60 (fun cGeometryGroups cGeometryBanks cGeometryRows cGeometryCols cTimingRCD cTimingRP cTimingRAS cTimingRRDS cTimingRRDL cTimingFAW cTimingCCDS cTimingCCDL cTimingRTP cTimingWR cTimingWTRS cTimingWTRL cTimingRTW cTimingRFC cTimingCKE cTimingXP cTimingXS cMappingOrder cMappingHash cSpares cInterval cTrack cLimitsAge cLimitsHits pPage pCap pLimit pLow pHigh pWeightsO pWeightsN pWeightsC pWeightsg0 pRuleDown pRuleSleep w h0 hp=>fitI_any cGeometryGroups cGeometryBanks cGeometryRows cGeometryCols cTimingRCD cTimingRP cTimingRAS cTimingRRDS cTimingRRDL cTimingFAW cTimingCCDS cTimingCCDL cTimingRTP cTimingWR cTimingWTRS cTimingWTRL cTimingRTW cTimingRFC cTimingCKE cTimingXP cTimingXS cMappingOrder cMappingHash cSpares cInterval cTrack cLimitsAge cLimitsHits pPage pCap pLimit pLow pHigh pWeightsO pWeightsN pWeightsC pWeightsg0 pRuleDown pRuleSleep w h0 hp)
theorem sFit_ok_fitS:SmOK Tryz.prog 27 sFit:=sFit_ok Tryz.call27 (fun cGeometryGroups cGeometryBanks cGeometryRows cGeometryCols cTimingRCD cTimingRP cTimingRAS cTimingRRDS cTimingRRDL cTimingFAW cTimingCCDS cTimingCCDL cTimingRTP cTimingWR cTimingWTRS cTimingWTRL cTimingRTW cTimingRFC cTimingCKE cTimingXP cTimingXS cMappingOrder cMappingHash cSpares cInterval cTrack cLimitsAge cLimitsHits pPage pCap pLimit pLow pHigh pWeightsO pWeightsN pWeightsC pWeightsg0 pRuleDown pRuleSleep w h0 hp=>fitS_any cGeometryGroups cGeometryBanks cGeometryRows cGeometryCols cTimingRCD cTimingRP cTimingRAS cTimingRRDS cTimingRRDL cTimingFAW cTimingCCDS cTimingCCDL cTimingRTP cTimingWR cTimingWTRS cTimingWTRL cTimingRTW cTimingRFC cTimingCKE cTimingXP cTimingXS cMappingOrder cMappingHash cSpares cInterval cTrack cLimitsAge cLimitsHits pPage pCap pLimit pLow pHigh pWeightsO pWeightsN pWeightsC pWeightsg0 pRuleDown pRuleSleep w h0 hp)
theorem regI_T (ao:Option Addr)(n c:Nat)(f:Nat→Int)(sp G B R K:Int):(exFn Tryz.prog {tb:=[(65,sSprOk)]} 400 Tryz.f69 ([.a (.agg [.int G,.int B,.int R,.int K]),.a (.agg [.int sp,.sl 0 ao n c])]) ([.row ⟨false,ao,0,1,n,0,[fun i=>.int (f i)]⟩]) (fun y_ _=>y_.den=.agg #[.int .i64 (ifZ (sprB n f sp G B R K) G),.int .i64 (ifZ (sprB n f sp G B R K) B),.int .i64 (ifZ (sprB n f sp G B R K) (isub R sp)),.int .i64 (ifZ (sprB n f sp G B R K) K)]))=(
 ∀ b d g:Nat,b=b∧d=d∧∃ h:Nat→Int,(ao=ao∧n=n∧[fun j=>Ci (f j)]=[fun j=>Ci (h j)])∧(lenC n∧leC n n∧leC n c∧rngC R)∧((! (sprB n h sp G B R K))=true→g=g∧g=g∧(Wa [Wi 0,Wi 0,Wi 0,Wi 0])=(Wa [Wi (ifZ (sprB n f sp G B R K) G),Wi (ifZ (sprB n f sp G B R K) B),Wi (ifZ (sprB n f sp G B R K) (R-sp)),Wi (ifZ (sprB n f sp G B R K) K)]))∧((! (sprB n h sp G B R K))=false→b=b∧d=d∧rng (R-sp)∧b=b∧b=b∧g=g∧g=g∧(Wa [Wi G,Wi B,Wi (R-sp),Wi K])=(Wa [Wi (ifZ (sprB n f sp G B R K) G),Wi (ifZ (sprB n f sp G B R K) B),Wi (ifZ (sprB n f sp G B R K) (R-sp)),Wi (ifZ (sprB n f sp G B R K) K)]))):=by kernel_rfl
theorem regI_any (ao:Option Addr)(n c:Nat)(f:Nat→Int)(sp G B R K:Int)(w:World)(hn:n≤9223372036854775807)(hcp:n≤c)(hrR:rngC R)(h0:Row.sat w ⟨false,ao,0,1,n,0,[fun i=>.int (f i)]⟩):Calls Tryz.prog 69 #[.agg #[.int .i64 G,.int .i64 B,.int .i64 R,.int .i64 K],.agg #[.int .i64 sp,.slice ao n c]] w fun e w'=>e=.returned (.agg #[.int .i64 (ifZ (sprB n f sp G B R K) G),.int .i64 (ifZ (sprB n f sp G B R K) B),.int .i64 (ifZ (sprB n f sp G B R K) (isub R sp)),.int .i64 (ifZ (sprB n f sp G B R K) K)])∧Below w.heap.size w w':=by
 refine fn_ok mixed (E:={tb:=[(65,sSprOk)]}) ⟨sSprOk_I,trivial⟩ Tryz.func69 (fun _ _=>loopsOK_nil _ _ _) (@Eq.mpr _ _ (regI_T ao n c f sp G B R K) ?_) (HS.rows (fun _=>False) [⟨false,ao,0,1,n,0,[fun i=>.int (f i)]⟩] (by simpa using h0)) (fun v ch' w' hv hs=>⟨by rw [hv],hs.below⟩)
 clear h0
 cases hsp:sprB n f sp G B R K
 ·repeat' (first
   | with_reducible exact rfl
   | exact True.intro
   | with_reducible assumption
   | (show @Eq (List _) _ _;exact rfl)
   | refine And.intro ?_ ?_
   | apply Exists.intro
   | (refine fun (h:@Eq Bool _ _)=>?_;exfalso;first | (simp [hsp] at h;done) | (simp [hsp] at h;omega))
   | intro _
   | omega
   | exact rfl)
 ·have hk:spOk G B R K sp=true:=by
   simp only [sprB,Bool.and_eq_true] at hsp
   exact hsp.1.1
  have hf:=spOk_facts hk
  obtain ⟨_,_,_,_,hf5,hf6⟩:=hf
  repeat' (first
   | with_reducible exact rfl
   | exact True.intro
   | with_reducible assumption
   | (show @Eq (List _) _ _;exact rfl)
   | refine And.intro ?_ ?_
   | apply Exists.intro
   | (refine fun (h:@Eq Bool _ _)=>?_;exfalso;first | (simp [hsp] at h;done) | (simp [hsp] at h;omega))
   | intro _
   | omega
   | exact rfl)
theorem regS_T (ao:Option Addr)(n c:Nat)(f:Nat→Int)(sp G B R K:Int):(exFn Tryz.prog {tb:=[(32,sSprOk)]} 400 Tryz.f37 ([.a (.agg [.int G,.int B,.int R,.int K]),.a (.agg [.int sp,.sl 0 ao n c])]) ([.row ⟨false,ao,0,1,n,0,[fun i=>.int (f i)]⟩]) (fun y_ _=>y_.den=.agg #[.int .i64 (ifZ (sprB n f sp G B R K) G),.int .i64 (ifZ (sprB n f sp G B R K) B),.int .i64 (ifZ (sprB n f sp G B R K) (isub R sp)),.int .i64 (ifZ (sprB n f sp G B R K) K)]))=(
 ∀ b d g:Nat,b=b∧d=d∧∃ h:Nat→Int,(ao=ao∧n=n∧[fun j=>Ci (f j)]=[fun j=>Ci (h j)])∧(lenC n∧leC n n∧leC n c∧rngC R)∧((! (sprB n h sp G B R K))=true→g=g∧g=g∧(Wa [Wi 0,Wi 0,Wi 0,Wi 0])=(Wa [Wi (ifZ (sprB n f sp G B R K) G),Wi (ifZ (sprB n f sp G B R K) B),Wi (ifZ (sprB n f sp G B R K) (R-sp)),Wi (ifZ (sprB n f sp G B R K) K)]))∧((! (sprB n h sp G B R K))=false→b=b∧d=d∧rng (R-sp)∧b=b∧b=b∧g=g∧g=g∧(Wa [Wi G,Wi B,Wi (R-sp),Wi K])=(Wa [Wi (ifZ (sprB n f sp G B R K) G),Wi (ifZ (sprB n f sp G B R K) B),Wi (ifZ (sprB n f sp G B R K) (R-sp)),Wi (ifZ (sprB n f sp G B R K) K)]))):=by kernel_rfl
theorem regS_any (ao:Option Addr)(n c:Nat)(f:Nat→Int)(sp G B R K:Int)(w:World)(hn:n≤9223372036854775807)(hcp:n≤c)(hrR:rngC R)(h0:Row.sat w ⟨false,ao,0,1,n,0,[fun i=>.int (f i)]⟩):Calls Tryz.prog 37 #[.agg #[.int .i64 G,.int .i64 B,.int .i64 R,.int .i64 K],.agg #[.int .i64 sp,.slice ao n c]] w fun e w'=>e=.returned (.agg #[.int .i64 (ifZ (sprB n f sp G B R K) G),.int .i64 (ifZ (sprB n f sp G B R K) B),.int .i64 (ifZ (sprB n f sp G B R K) (isub R sp)),.int .i64 (ifZ (sprB n f sp G B R K) K)])∧Below w.heap.size w w':=by
 refine fn_ok mixed (E:={tb:=[(32,sSprOk)]}) ⟨sSprOk_S,trivial⟩ Tryz.func37 (fun _ _=>loopsOK_nil _ _ _) (@Eq.mpr _ _ (regS_T ao n c f sp G B R K) ?_) (HS.rows (fun _=>False) [⟨false,ao,0,1,n,0,[fun i=>.int (f i)]⟩] (by simpa using h0)) (fun v ch' w' hv hs=>⟨by rw [hv],hs.below⟩)
 clear h0
 cases hsp:sprB n f sp G B R K
 ·repeat' (first
   | with_reducible exact rfl
   | exact True.intro
   | with_reducible assumption
   | (show @Eq (List _) _ _;exact rfl)
   | refine And.intro ?_ ?_
   | apply Exists.intro
   | (refine fun (h:@Eq Bool _ _)=>?_;exfalso;first | (simp [hsp] at h;done) | (simp [hsp] at h;omega))
   | intro _
   | omega
   | exact rfl)
 ·have hk:spOk G B R K sp=true:=by
   simp only [sprB,Bool.and_eq_true] at hsp
   exact hsp.1.1
  have hf:=spOk_facts hk
  obtain ⟨_,_,_,_,hf5,hf6⟩:=hf
  repeat' (first
   | with_reducible exact rfl
   | exact True.intro
   | with_reducible assumption
   | (show @Eq (List _) _ _;exact rfl)
   | refine And.intro ?_ ?_
   | apply Exists.intro
   | (refine fun (h:@Eq Bool _ _)=>?_;exfalso;first | (simp [hsp] at h;done) | (simp [hsp] at h;omega))
   | intro _
   | omega
   | exact rfl)
def sRgOk:Sm:=fun args ch k =>
 match args with
 | [.a (.agg [c0,c1,c2,c3]),.a (.agg [y,x])] =>
  match ints [c0,c1,c2,c3,y] with
  | some [G,B,R,K,sp] =>
   match x with
   | .sl id ao n c=>rdn ch (.sl id ao n c) fun m f=>(lenC m∧leC m n∧leC n c∧rngC R)∧k (.a (.agg [.int (ifZ (sprB m f sp G B R K) G),.int (ifZ (sprB m f sp G B R K) B),.int (ifZ (sprB m f sp G B R K) (isub R sp)),.int (ifZ (sprB m f sp G B R K) K)])) ch []
   | _=>False
  | _=>False
 | _=>False
theorem sRgOk_I:SmOK Tryz.prog 69 sRgOk:=by
 refine smB Tryz.call69 fun args ch k w X h0 hs=>?_
 unfold sRgOk at h0
 split at h0
 ·split at h0
  ·rename_i G B R K sp hi
   split at h0
   ·rename_i id ao n c
    obtain ⟨e0,hi⟩:=ints_cons hi
    obtain ⟨e1,hi⟩:=ints_cons hi
    obtain ⟨e2,hi⟩:=ints_cons hi
    obtain ⟨e3,hi⟩:=ints_cons hi
    obtain ⟨e4,hi⟩:=ints_cons hi
    obtain ⟨ao',m,c',f,em,hr,⟨h1,h2,h3,h4⟩,h0⟩:=rdn_ok h0 hs
    refine ⟨_,h0,?_⟩
    have em2:Value.slice ao n c=Value.slice ao' m c':=em
    injection em2 with ea en ec
    subst ea en ec
    simp only [List.map_cons,List.map_nil,den_a,SA.den,em,e0,e1,e2,e3,e4]
    exact regI_any ao n c f sp G B R K w h1 h3 h4 hr
   ·exact h0.elim
  ·exact h0.elim
 ·exact h0.elim
theorem sRgOk_S:SmOK Tryz.prog 37 sRgOk:=by
 refine smB Tryz.call37 fun args ch k w X h0 hs=>?_
 unfold sRgOk at h0
 split at h0
 ·split at h0
  ·rename_i G B R K sp hi
   split at h0
   ·rename_i id ao n c
    obtain ⟨e0,hi⟩:=ints_cons hi
    obtain ⟨e1,hi⟩:=ints_cons hi
    obtain ⟨e2,hi⟩:=ints_cons hi
    obtain ⟨e3,hi⟩:=ints_cons hi
    obtain ⟨e4,hi⟩:=ints_cons hi
    obtain ⟨ao',m,c',f,em,hr,⟨h1,h2,h3,h4⟩,h0⟩:=rdn_ok h0 hs
    refine ⟨_,h0,?_⟩
    have em2:Value.slice ao n c=Value.slice ao' m c':=em
    injection em2 with ea en ec
    subst ea en ec
    simp only [List.map_cons,List.map_nil,den_a,SA.den,em,e0,e1,e2,e3,e4]
    exact regS_any ao n c f sp G B R K w h1 h3 h4 hr
   ·exact h0.elim
  ·exact h0.elim
 ·exact h0.elim
theorem line_bd (g b r c:Int):0≤lineN g b r c∧lineN g b r c≤1024:=by
 cases h:geoB g b r c
 ·have:=(line_not h).1
  omega
 ·have hf:=geo_facts h
  have hb:=geo_bank h
  have e:lineN g b r c=g*b*r*c:=by simp [lineN,h]
  obtain ⟨_,_,⟨h1,h2⟩,⟨h3,h4⟩⟩:=hf
  have a1:0≤g*b*r:=Int.mul_nonneg (by omega) (by omega)
  have a2:g*b*r≤8*16:=Int.mul_le_mul hb.2 h2 (by omega) (by omega)
  have a3:0≤g*b*r*c:=Int.mul_nonneg a1 (by omega)
  have a4:g*b*r*c≤8*16*8:=Int.mul_le_mul a2 h4 (by omega) (by omega)
  omega
end Go.Proofs.YtmnccapnjphmfaaGreat
