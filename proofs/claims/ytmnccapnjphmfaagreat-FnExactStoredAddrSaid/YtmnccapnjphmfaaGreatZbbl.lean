/-
  FnExactStoredAddr: a part of the walk (merged and squeezed by program: SxCtI).
-/
import Derived.Test.YtmnccapnjphmfaaGreatZbbk
namespace Go.Proofs.YtmnccapnjphmfaaGreat
set_option linter.unusedVariables false
set_option linter.unusedSimpArgs false
open Go.RowKit
set_option maxRecDepth 100000
set_option maxHeartbeats 8000000
theorem ctkI_T (x:CtD)(o:Nat→Option Addr)(q:Nat→Nat)(so:Nat→Option Addr)(sc:Nat→Nat)(uo:Nat→Option Addr)(uc:Nat→Nat)(vo:Nat→Option Addr)(vc:Nat→Nat):(exFn Tryz.prog {tb:=[(60,sFit),(61,sBtw),(62,sRkOk),(63,sRdOk),(64,sArrOk),(65,sSprOk),(66,sPrtI x o q so sc uo uc vo vc),(69,sRgOk),(68,sLine),(67,sQuOk),(70,sShOk),(71,sDrB),(72,sPwB),(73,sErOk)]} 400 Tryz.f8 ([.a (.agg (ctS 0 x o q))]) (ctR 0 x o q so sc uo uc vo vc) (fun y_ _=>y_.den=.bool (ctB x)))=(
 (fun b:Value=>(fun c:Value=>(fun d:List (Nat→SC)=>(fun g:Bool=>(fun h:Bool=>(fun j:List Row=>(fun k:Bool=>(fun l:Int=>(fun m:Bool=>(fun n:Bool=>(fun p:Bool=>(fun r:Bool=>(fun s:List (Nat→SC)=>(fun t:List (Nat→SC)=>(fun u:List (Nat→SC)=>(fun v:Bool=>(fun w:Prop=>(fun y:List (Nat→SC)=>(fun z:List (Nat→SC)=>(fun B:Bool=>(fun C:List SV=>(fun D:List Ch=>∀ E:Nat,E=E∧∀ F:Nat,F=F∧E=E∧E=E∧∃ G:Nat→Int,(fun H:Bool=>((o 0)=(o 0)∧(x.3 0)=(x.3 0)∧[fun I=>Ci (x.4 0 0 I)]=[fun I=>Ci (G I)]∧rngC (x.1 2)∧capC (x.3 0))∧(H=false→E=E∧E=E∧∃ I:Nat→Int,(fun J:Bool=>((o 1)=(o 1)∧(x.3 1)=(x.3 1)∧[fun K=>Ci (x.4 1 0 K)]=[fun K=>Ci (I K)]∧rngC (x.1 2)∧capC (x.3 1))∧(J=false→E=E∧(p=true→b=c)∧(p=false→F=F∧E=E∧∃(K:Nat→Nat→Int) (L:Nat→Nat→Bool),(fun M:Bool=>((o 2)=(o 2)∧(x.3 2)=(x.3 2)∧s=[fun N=>Cb (L 0 N),fun N=>Ci (K 1 N)])∧cap1C (x.3 2)∧(M=false→F=F∧E=E∧∃ N:Nat→Int,((o 3)=(o 3)∧(x.3 3)=(x.3 3)∧[fun O=>Ci (x.4 3 0 O)]=[fun O=>Ci (N O)])∧∃ O:Nat→Int,(fun P:Bool=>((o 4)=(o 4)∧(x.3 4)=(x.3 4)∧[fun Q=>Ci (x.4 4 0 Q)]=[fun Q=>Ci (O Q)])∧(lenC (x.3 3)∧lenC (x.3 4))∧(P=false→F=F∧E=E∧∃(Q:Nat) (R:CD) (S:Nat→Option Addr) (T U:Nat→Nat) (V W:Nat→Int),(fun X:AD=>(fun Y:Bool=>(j=(symRows false Q R S U)∧u=[fun Z=>Cs 18 (S Z) (R.2 Z) (T Z),fun Z=>Cb (R.4 Z)]∧(o 5)=(o 5)∧x.6.1=x.6.1∧x.6.1=R.1∧(o 6)=(o 6)∧(x.3 6)=(x.3 6)∧[fun Z=>Ci (x.4 6 0 Z)]=[fun Z=>Ci (V Z)]∧(o 7)=(o 7)∧(x.3 7)=(x.3 7)∧[fun Z=>Ci (x.4 7 0 Z)]=[fun Z=>Ci (W Z)])∧lenA X∧(Y=false→F=F∧E=E∧∃ Z:Nat→Int,(fun aa:Bool=>((o 8)=(o 8)∧(x.3 8)=(x.3 8)∧d=[fun ab=>Ci (Z ab)])∧w∧(aa=false→E=E∧E=E∧(((x.1 43) != (x.1 22))=false→E=E∧(C=C∧D=D∧capCt x)∧((! (prtB x))=true→b=c)∧((! (prtB x))=false→F=F∧E=E∧E=E∧∃ ab:Nat→Int,(fun ac:Bool=>(fun ad:Int=>((o 8)=(o 8)∧(x.3 8)=(x.3 8)∧d=[fun af=>Ci (ab af)])∧w∧True∧True∧∃(af:Nat→Nat→Int) (ag:Nat→Nat→Bool),((o 13)=(o 13)∧(x.3 13)=(x.3 13)∧z=[fun ah=>Ci (af 0 ah),fun ah=>Ci (af 1 ah),fun ah=>Ci (af 2 ah),fun ah=>Cb (ag 3 ah),fun ah=>Ci (af 4 ah),fun ah=>Ci (af 5 ah)])∧(lenC (x.3 13)∧leC (x.3 13) (q 13))∧True∧((! (quB (x.3 13) af ag ad))=false→E=E∧∃ ah aj:Nat→Int,((o 14)=(o 14)∧(x.3 14)=(x.3 14)∧t=[fun ak=>Ci (ah ak),fun ak=>Ci (aj ak)])∧lenC (x.3 14)∧True∧((! (shB (x.3 14) ah aj))=false→E=E∧(n=false→E=E∧True∧((! (drB (x.1 45) (x.1 46)))=true→b=c)∧((! (drB (x.1 45) (x.1 46)))=false→E=E∧(k=false→E=E∧E=E∧(((x.1 47) != (x.1 42))=false→E=E∧E=E∧(g=true→b=c)∧(g=false→E=E∧∀ ak:Nat,ak=ak∧ak=ak∧True∧(m=true→ak=ak∧ak=ak∧True∧(h=true→ak=ak∧F=F∧True∧rng (l-(1:Int))∧True∧(v=true→E=E∧∃(al:Nat→Nat→Int) (am:Nat→Nat→Bool),((o 15)=(o 15)∧(x.3 15)=(x.3 15)∧y=[fun an=>Ci (al 0 an),fun an=>Ci (al 1 an),fun an=>Ci (al 2 an)])∧(lenC (x.3 15)∧leC (x.3 15) (q 15))∧True∧((ersB (x.3 15) al)=true→E=E∧(r=true→E=E∧(Wb (decide ((((x.3 17):Nat):Int)≤(400:Int))))=c)∧(r=false→b=c))∧((ersB (x.3 15) al)=false→b=c))∧(v=false→b=c))∧(h=false→b=c))∧(m=false→b=c)))∧(((x.1 47) != (x.1 42))=true→b=c))∧(k=true→b=c)))∧(n=true→b=c))∧((! (shB (x.3 14) ah aj))=true→b=c))∧((! (quB (x.3 13) af ag ad))=true→b=c)) (lineN (ifZ ac (x.1 0)) (ifZ ac (x.1 1)) (ifZ ac ((x.1 2)-(x.1 43))) (ifZ ac (x.1 3)))) (sprB (x.3 8) ab (x.1 43) (x.1 0) (x.1 1) (x.1 2) (x.1 3))))∧(((x.1 43) != (x.1 22))=true→b=c))∧(aa=true→b=c)) (! (sprB (x.3 8) Z (x.1 43) (x.1 0) (x.1 1) (x.1 2) (x.1 3))))∧(Y=true→b=c)) (! (arrOk (x.1 0) (x.1 1) (x.1 2) (x.1 3) X))) (AD.mk R (x.3 6) V (x.3 7) W))∧(P=true→b=c)) (! (rdyB (x.3 3) N (x.3 4) O (x.1 0) (x.1 1) (x.1 2) (x.1 3))))∧(M=true→b=c)) (! (rkB (x.3 2) K L (x.1 42) (x.1 0) (x.1 1) (x.1 2) (x.1 3)))))∧(J=true→b=c)) (! (fitsP B (polB (x.1 34) (x.1 35) (x.1 36) (x.1 37) (x.1 38) (x.3 1) I (x.1 39) (x.1 40)) (x.1 24) (x.1 23) (x.1 6) (x.1 5) (x.1 26) (x.1 36))))∧(H=true→b=c)) (! (fitsP B (polB (x.1 27) (x.1 28) (x.1 29) (x.1 30) (x.1 31) (x.3 0) G (x.1 32) (x.1 33)) (x.1 24) (x.1 23) (x.1 6) (x.1 5) (x.1 26) (x.1 29)))) [Hr false (o 0) 0 1 (x.3 0) 0 [fun D=>Ci (x.4 0 0 D)],Hr false (o 1) 0 1 (x.3 1) 0 [fun D=>Ci (x.4 1 0 D)],Hr false (o 2) 0 2 (x.3 2) 0 s,Hr false (o 3) 0 1 (x.3 3) 0 [fun D=>Ci (x.4 3 0 D)],Hr false (o 4) 0 1 (x.3 4) 0 [fun D=>Ci (x.4 4 0 D)],Hr false (o 5) 0 2 x.6.1 0 u,Hr false (o 6) 0 1 (x.3 6) 0 [fun D=>Ci (x.4 6 0 D)],Hr false (o 7) 0 1 (x.3 7) 0 [fun D=>Ci (x.4 7 0 D)],Hr false (o 8) 0 1 (x.3 8) 0 d,Hr false (o 9) 0 1 (x.3 9) 0 [fun D=>Ci (x.4 9 0 D)],Hr false (o 10) 0 3 x.7.1 0 [fun D=>Cs 19 (uo D) (x.7.2 D) (uc D),fun D=>Cs 20 (vo D) (x.7.4 D) (vc D),fun D=>Ci (x.7.6 D)],Hr false (o 11) 0 1 (x.3 11) 0 [fun D=>Ci (x.4 11 0 D)],Hr false (o 12) 0 3 (x.3 12) 0 [fun D=>Ci (x.4 12 0 D),fun D=>Ci (x.4 12 1 D),fun D=>Ci (x.4 12 2 D)],Hr false (o 13) 0 6 (x.3 13) 0 z,Hr false (o 14) 0 2 (x.3 14) 0 t,Hr false (o 15) 0 3 (x.3 15) 0 y,Hr false (o 16) 0 5 (x.3 16) 0 [fun D=>Ci (x.4 16 0 D),fun D=>Ci (x.4 16 1 D),fun D=>Ci (x.4 16 2 D),fun D=>Ci (x.4 16 3 D),fun D=>Ci (x.4 16 4 D)],Hr false (o 17) 0 4 (x.3 17) 0 [fun D=>Ci (x.4 17 0 D),fun D=>Ci (x.4 17 1 D),fun D=>Ci (x.4 17 2 D),fun D=>Ci (x.4 17 3 D)],Ho false j,Ho false (symRows false 0 (CD.mk x.7.1 x.7.2 x.7.3 (fun D=>false)) uo (fun D=>0)),Ho false (symRows false 0 (CD.mk x.7.1 x.7.4 x.7.5 (fun D=>false)) vo (fun D=>0))]) [aV [Ci (x.1 0),Ci (x.1 1),Ci (x.1 2),Ci (x.1 3),Ci (x.1 4),Ci (x.1 5),Ci (x.1 6),Ci (x.1 7),Ci (x.1 8),Ci (x.1 9),Ci (x.1 10),Ci (x.1 11),Ci (x.1 12),Ci (x.1 13),Ci (x.1 14),Ci (x.1 15),Ci (x.1 16),Ci (x.1 17),Ci (x.1 18),Ci (x.1 19),Ci (x.1 20),Ci (x.1 21),Cb (x.2 0),Ci (x.1 22),Ci (x.1 23),Ci (x.1 24),Ci (x.1 25),Ci (x.1 26),Ci (x.1 27),Ci (x.1 28),Ci (x.1 29),Ci (x.1 30),Ci (x.1 31),Cs 0 (o 0) (x.3 0) (q 0),Ci (x.1 32),Ci (x.1 33),Ci (x.1 34),Ci (x.1 35),Ci (x.1 36),Ci (x.1 37),Ci (x.1 38),Cs 1 (o 1) (x.3 1) (q 1),Ci (x.1 39),Ci (x.1 40),Cb (x.2 1),Ci (x.1 41),Cs 2 (o 2) (x.3 2) (q 2),Ci (x.1 42),Cs 3 (o 3) (x.3 3) (q 3),Cs 4 (o 4) (x.3 4) (q 4),Cs 5 (o 5) x.6.1 (q 5),Cs 6 (o 6) (x.3 6) (q 6),Cs 7 (o 7) (x.3 7) (q 7),Ci (x.1 43),Cs 8 (o 8) (x.3 8) (q 8),Cs 9 (o 9) (x.3 9) (q 9),Ci (x.1 44),Cb (x.2 2),Cs 10 (o 10) x.7.1 (q 10),Cs 11 (o 11) (x.3 11) (q 11),Cs 12 (o 12) (x.3 12) (q 12),Cs 13 (o 13) (x.3 13) (q 13),Cs 14 (o 14) (x.3 14) (q 14),Cb (x.2 3),Ci (x.1 45),Ci (x.1 46),Ci (x.1 47),Ci (x.1 48),Ci (x.1 49),Ci (x.1 50),Ci (x.1 51),Ci (x.1 52),Cs 15 (o 15) (x.3 15) (q 15),Cs 16 (o 16) (x.3 16) (q 16),Cs 17 (o 17) (x.3 17) (q 17)]]) (cfgB (x.1 0) (x.1 1) (x.1 2) (x.1 3) (x.1 4) (x.1 5) (x.1 6) (x.1 7) (x.1 8) (x.1 9) (x.1 10) (x.1 11) (x.1 12) (x.1 13) (x.1 14) (x.1 15) (x.1 16) (x.1 17) (x.1 18) (x.1 19) (x.1 20) (x.1 21) (x.1 22) (x.1 23) (x.1 24) (x.1 25) (x.1 26) (x.2 0))) [fun z=>Ci (x.4 13 0 z),fun z=>Ci (x.4 13 1 z),fun z=>Ci (x.4 13 2 z),fun z=>Cb (x.5 13 3 z),fun z=>Ci (x.4 13 4 z),fun z=>Ci (x.4 13 5 z)]) [fun y=>Ci (x.4 15 0 y),fun y=>Ci (x.4 15 1 y),fun y=>Ci (x.4 15 2 y)]) (lenC (x.3 8)∧leC (x.3 8) (x.3 8)∧leC (x.3 8) (q 8)∧rngC (x.1 2))) (btw (x.1 50) (0:Int) (l-(1:Int)))) [fun u=>Cs 18 (so u) (x.6.2 u) (sc u),fun u=>Cb (x.6.4 u)]) [fun t=>Ci (x.4 14 0 t),fun t=>Ci (x.4 14 1 t)]) [fun s=>Cb (x.5 2 0 s),fun s=>Ci (x.4 2 1 s)]) (decide ((((x.3 16):Nat):Int)≤(2000:Int)))) (! (btw (x.1 41) (0:Int) (1000000:Int)))) ((((x.3 14):Nat):Int) != (4:Int))) (btw (x.1 51) (1:Int) (100000:Int))) (lineN (x.1 0) (x.1 1) (x.1 2) (x.1 3))) (! (powB (x.1 47) (x.1 48) (x.1 49)))) (symRows false 0 x.6 so (fun j=>0))) (btw (x.1 52) (1:Int) (x.1 51))) (decide ((x.1 48) > (x.1 41)))) [fun d=>Ci (x.4 8 0 d)]) (Wb (ctB x))) (Wb false)):=by kernel_rfl
theorem ctkI_any (x:CtD)(o:Nat→Option Addr)(q:Nat→Nat)(so:Nat→Option Addr)(sc:Nat→Nat)(uo:Nat→Option Addr)(uc:Nat→Nat)(vo:Nat→Option Addr)(vc:Nat→Nat)(w:World)(hA:∀ c∈ctR 0 x o q so sc uo uc vo vc,c.own=false∧c.sat w)(hc1:cap1Ct x)(hR:rngC (x.i 2))(hq:x.n 8≤q 8∧x.n 13≤q 13∧x.n 15≤q 15):Calls Tryz.prog 8 #[ctV x o q] w fun e w'=>e=.returned (.bool (ctB x))∧Below w.heap.size w w':=by
 refine fnB (tb:=[(60,sFit),(61,sBtw),(62,sRkOk),(63,sRdOk),(64,sArrOk),(65,sSprOk),(66,sPrtI x o q so sc uo uc vo vc),(69,sRgOk),(68,sLine),(67,sQuOk),(70,sShOk),(71,sDrB),(72,sPwB),(73,sErOk)]) ⟨sFit_ok_fitI,sBtwI_ok,sRkOk_I,sRdOk_I,sArrOk_I,sSprOk_I,(sPrtI_ok x o q so sc uo uc vo vc),sRgOk_I,sLine_I,sQuOk_I,sShOk_I,sDrB_ok_drI,sPwB_ok_pwI,sErOk_I,trivial⟩ Tryz.func8 (@Eq.mpr _ _ (ctkI_T x o q so sc uo uc vo vc) ?_) (HS.seenAll (fun _=>False) _ hA) (fun v ch' w' hv hs=>⟨by rw [hv],hs.below⟩)
 dsimp -zeta -proj -iota -eta -failIfUnchanged (etaStruct:=.none) only
 clear hA
 have hcap:capCt x:=capOf1Ct hc1
 have hn:=hc1.1
 have m0:capC (x.n 0):=hcap.1.1
 have m1:capC (x.n 1):=hcap.1.2.1
 have l3:lenC (x.n 3):=by have h:x.n 3≤2097152:=hcap.1.2.2.2.1;show _≤_;omega
 have l4:lenC (x.n 4):=by have h:x.n 4≤2097152:=hcap.1.2.2.2.2.1;show _≤_;omega
 have l8:lenC (x.n 8):=by have h:x.n 8≤2097152:=hcap.1.2.2.2.2.2.2.2.1;show _≤_;omega
 have l9:lenC (x.n 9):=by have h:x.n 9≤2097152:=hcap.1.2.2.2.2.2.2.2.2.1;show _≤_;omega
 have l13:lenC (x.n 13):=by have h:x.n 13≤2097152:=hcap.1.2.2.2.2.2.2.2.2.2.2.2.1;show _≤_;omega
 have l14:lenC (x.n 14):=by have h:x.n 14≤2097152:=hcap.1.2.2.2.2.2.2.2.2.2.2.2.2.1;show _≤_;omega
 have l15:lenC (x.n 15):=by have h:x.n 15≤2097152:=hcap.1.2.2.2.2.2.2.2.2.2.2.2.2.2.1;show _≤_;omega
 have k2:cap1C (x.n 2):=hn.2.2.1
 have kA:lenA (⟨x.c,x.n 6,x.g 6 0,x.n 7,x.g 7 0⟩:AD):=by
  have t1:totN x.c.sn x.c.n≤2097152:=hcap.2.1
  have t2:=totN_n (sn:=x.c.sn) x.c.n
  have t3:x.n 6≤2097152:=hcap.1.2.2.2.2.2.1
  have t4:x.n 7≤2097152:=hcap.1.2.2.2.2.2.2.1
  refine ⟨by show x.c.n≤_;omega,by show x.n 6≤_;omega,by show x.n 7≤_;omega,fun i hi=>?_⟩
  have t5:=totN_sn (sn:=x.c.sn) (i:=i) (n:=x.c.n) hi
  show x.c.sn i≤_
  omega
 obtain ⟨q8,q13,q15⟩:=hq
 have e8:leC (x.n 8) (x.n 8):=Nat.le_refl _
 have hLb:=line_bd (x.i 0) (x.i 1) (x.i 2) (x.i 3)
 obtain ⟨hLb1,hLb2⟩:=hLb
 clear hn hc1
 rcases bcase (fitsP (cfgB (x.i 0) (x.i 1) (x.i 2) (x.i 3) (x.i 4) (x.i 5) (x.i 6) (x.i 7) (x.i 8) (x.i 9) (x.i 10) (x.i 11) (x.i 12) (x.i 13) (x.i 14) (x.i 15) (x.i 16) (x.i 17) (x.i 18) (x.i 19) (x.i 20) (x.i 21) (x.i 22) (x.i 23) (x.i 24) (x.i 25) (x.i 26) (x.b 0)) (polB (x.i 27) (x.i 28) (x.i 29) (x.i 30) (x.i 31) (x.n 0) (x.g 0 0) (x.i 32) (x.i 33)) (x.i 24) (x.i 23) (x.i 6) (x.i 5) (x.i 26) (x.i 29)) with a1 | a1
 ·have hok:ctB x=false:=by simp only [ctB,a1,Bool.false_and,Bool.and_false]
  repeat' (first
   | with_reducible exact rfl
   | exact True.intro
   | with_reducible assumption
   | (refine fun (h:@Eq Bool _ _)=>?_;exfalso;rw [b1] at h;simp at h;done)
   | (refine Exists.intro (⟨x.c,x.n 6,x.g 6 0,x.n 7,x.g 7 0⟩:AD) ?_)
   | (with_reducible exact kA)
   | (with_reducible exact hcap)
   | (show rng _;exact ⟨by omega,by omega⟩)
   | ((with_reducible show @Eq (List SV) _ _);exact rfl)
   | ((with_reducible show @Eq (List Ch) _ _);exact rfl)
   | (exact congrArg Value.bool (by rw [hok];exact decide_eq_false c6))
   | (simp only [hok];done)
   | refine And.intro ?_ ?_
   | apply Exists.intro
   | (refine fun (h:@Eq Bool _ _)=>?_;exfalso;first | (simp [a1] at h;done) | (simp [a1] at h;omega))
   | intro _
   | omega
   | exact rfl)
  all_goals exact false
 ·skip
  rcases bcase (fitsP (cfgB (x.i 0) (x.i 1) (x.i 2) (x.i 3) (x.i 4) (x.i 5) (x.i 6) (x.i 7) (x.i 8) (x.i 9) (x.i 10) (x.i 11) (x.i 12) (x.i 13) (x.i 14) (x.i 15) (x.i 16) (x.i 17) (x.i 18) (x.i 19) (x.i 20) (x.i 21) (x.i 22) (x.i 23) (x.i 24) (x.i 25) (x.i 26) (x.b 0)) (polB (x.i 34) (x.i 35) (x.i 36) (x.i 37) (x.i 38) (x.n 1) (x.g 1 0) (x.i 39) (x.i 40)) (x.i 24) (x.i 23) (x.i 6) (x.i 5) (x.i 26) (x.i 36)) with a2 | a2
  ·have hok:ctB x=false:=by simp only [ctB,a2,Bool.false_and,Bool.and_false]
   repeat' (first
    | with_reducible exact rfl
    | exact True.intro
    | with_reducible assumption
    | (refine fun (h:@Eq Bool _ _)=>?_;exfalso;rw [b1] at h;simp at h;done)
    | (refine Exists.intro (⟨x.c,x.n 6,x.g 6 0,x.n 7,x.g 7 0⟩:AD) ?_)
    | (with_reducible exact kA)
    | (with_reducible exact hcap)
    | (show rng _;exact ⟨by omega,by omega⟩)
    | ((with_reducible show @Eq (List SV) _ _);exact rfl)
    | ((with_reducible show @Eq (List Ch) _ _);exact rfl)
    | (exact congrArg Value.bool (by rw [hok];exact decide_eq_false c6))
    | (simp only [hok];done)
    | refine And.intro ?_ ?_
    | apply Exists.intro
    | (refine fun (h:@Eq Bool _ _)=>?_;exfalso;first | (simp [a1,a2] at h;done) | (simp [a1,a2] at h;omega))
    | intro _
    | omega
    | exact rfl)
   all_goals exact false
  ·skip
   rcases bcase (btw (x.i 41) 0 1000000) with a3 | a3
   ·have hok:ctB x=false:=by simp only [ctB,a3,Bool.false_and,Bool.and_false]
    repeat' (first
     | with_reducible exact rfl
     | exact True.intro
     | with_reducible assumption
     | (refine fun (h:@Eq Bool _ _)=>?_;exfalso;rw [b1] at h;simp at h;done)
     | (refine Exists.intro (⟨x.c,x.n 6,x.g 6 0,x.n 7,x.g 7 0⟩:AD) ?_)
     | (with_reducible exact kA)
     | (with_reducible exact hcap)
     | (show rng _;exact ⟨by omega,by omega⟩)
     | ((with_reducible show @Eq (List SV) _ _);exact rfl)
     | ((with_reducible show @Eq (List Ch) _ _);exact rfl)
     | (exact congrArg Value.bool (by rw [hok];exact decide_eq_false c6))
     | (simp only [hok];done)
     | refine And.intro ?_ ?_
     | apply Exists.intro
     | (refine fun (h:@Eq Bool _ _)=>?_;exfalso;first | (simp [a1,a2,a3] at h;done) | (simp [a1,a2,a3] at h;omega))
     | intro _
     | omega
     | exact rfl)
    all_goals exact false
   ·skip
    rcases bcase (rkB (x.n 2) (x.g 2) (x.h 2) (x.i 42) (x.i 0) (x.i 1) (x.i 2) (x.i 3)) with a4 | a4
    ·have hok:ctB x=false:=by simp only [ctB,a4,Bool.false_and,Bool.and_false]
     repeat' (first
      | with_reducible exact rfl
      | exact True.intro
      | with_reducible assumption
      | (refine fun (h:@Eq Bool _ _)=>?_;exfalso;rw [b1] at h;simp at h;done)
      | (refine Exists.intro (⟨x.c,x.n 6,x.g 6 0,x.n 7,x.g 7 0⟩:AD) ?_)
      | (with_reducible exact kA)
      | (with_reducible exact hcap)
      | (show rng _;exact ⟨by omega,by omega⟩)
      | ((with_reducible show @Eq (List SV) _ _);exact rfl)
      | ((with_reducible show @Eq (List Ch) _ _);exact rfl)
      | (exact congrArg Value.bool (by rw [hok];exact decide_eq_false c6))
      | (simp only [hok];done)
      | refine And.intro ?_ ?_
      | apply Exists.intro
      | (refine fun (h:@Eq Bool _ _)=>?_;exfalso;first | (simp [a1,a2,a3,a4] at h;done) | (simp [a1,a2,a3,a4] at h;omega))
      | intro _
      | omega
      | exact rfl)
     all_goals exact false
    ·skip
     rcases bcase (rdyB (x.n 3) (x.g 3 0) (x.n 4) (x.g 4 0) (x.i 0) (x.i 1) (x.i 2) (x.i 3)) with a5 | a5
     ·have hok:ctB x=false:=by simp only [ctB,a5,Bool.false_and,Bool.and_false]
      repeat' (first
       | with_reducible exact rfl
       | exact True.intro
       | with_reducible assumption
       | (refine fun (h:@Eq Bool _ _)=>?_;exfalso;rw [b1] at h;simp at h;done)
       | (refine Exists.intro (⟨x.c,x.n 6,x.g 6 0,x.n 7,x.g 7 0⟩:AD) ?_)
       | (with_reducible exact kA)
       | (with_reducible exact hcap)
       | (show rng _;exact ⟨by omega,by omega⟩)
       | ((with_reducible show @Eq (List SV) _ _);exact rfl)
       | ((with_reducible show @Eq (List Ch) _ _);exact rfl)
       | (exact congrArg Value.bool (by rw [hok];exact decide_eq_false c6))
       | (simp only [hok];done)
       | refine And.intro ?_ ?_
       | apply Exists.intro
       | (refine fun (h:@Eq Bool _ _)=>?_;exfalso;first | (simp [a1,a2,a3,a4,a5] at h;done) | (simp [a1,a2,a3,a4,a5] at h;omega))
       | intro _
       | omega
       | exact rfl)
      all_goals exact false
     ·skip
      rcases bcase (arrOk (x.i 0) (x.i 1) (x.i 2) (x.i 3) (⟨x.c,x.n 6,x.g 6 0,x.n 7,x.g 7 0⟩:AD)) with a6 | a6
      ·have hok:ctB x=false:=by simp only [ctB,a6,Bool.false_and,Bool.and_false]
       repeat' (first
        | with_reducible exact rfl
        | exact True.intro
        | with_reducible assumption
        | (refine fun (h:@Eq Bool _ _)=>?_;exfalso;rw [b1] at h;simp at h;done)
        | (refine Exists.intro (⟨x.c,x.n 6,x.g 6 0,x.n 7,x.g 7 0⟩:AD) ?_)
        | (with_reducible exact kA)
        | (with_reducible exact hcap)
        | (show rng _;exact ⟨by omega,by omega⟩)
        | ((with_reducible show @Eq (List SV) _ _);exact rfl)
        | ((with_reducible show @Eq (List Ch) _ _);exact rfl)
        | (exact congrArg Value.bool (by rw [hok];exact decide_eq_false c6))
        | (simp only [hok];done)
        | refine And.intro ?_ ?_
        | apply Exists.intro
        | (refine fun (h:@Eq Bool _ _)=>?_;exfalso;first | (simp [a1,a2,a3,a4,a5,a6] at h;done) | (simp [a1,a2,a3,a4,a5,a6] at h;omega))
        | intro _
        | omega
        | exact rfl)
       all_goals exact false
      ·skip
       rcases bcase (sprB (x.n 8) (x.g 8 0) (x.i 43) (x.i 0) (x.i 1) (x.i 2) (x.i 3)) with a7 | a7
       ·have hok:ctB x=false:=by simp only [ctB,a7,Bool.false_and,Bool.and_false]
        repeat' (first
         | with_reducible exact rfl
         | exact True.intro
         | with_reducible assumption
         | (refine fun (h:@Eq Bool _ _)=>?_;exfalso;rw [b1] at h;simp at h;done)
         | (refine Exists.intro (⟨x.c,x.n 6,x.g 6 0,x.n 7,x.g 7 0⟩:AD) ?_)
         | (with_reducible exact kA)
         | (with_reducible exact hcap)
         | (show rng _;exact ⟨by omega,by omega⟩)
         | ((with_reducible show @Eq (List SV) _ _);exact rfl)
         | ((with_reducible show @Eq (List Ch) _ _);exact rfl)
         | (exact congrArg Value.bool (by rw [hok];exact decide_eq_false c6))
         | (simp only [hok];done)
         | refine And.intro ?_ ?_
         | apply Exists.intro
         | (refine fun (h:@Eq Bool _ _)=>?_;exfalso;first | (simp [a1,a2,a3,a4,a5,a6,a7] at h;done) | (simp [a1,a2,a3,a4,a5,a6,a7] at h;omega))
         | intro _
         | omega
         | exact rfl)
        all_goals exact false
       ·skip
        rcases bcase (ieq (x.i 43) (x.i 22)) with a8 | a8
        ·have na8:=ieq_ne a8
         have hok:ctB x=false:=by simp only [ctB,a8,Bool.false_and,Bool.and_false]
         repeat' (first
          | with_reducible exact rfl
          | exact True.intro
          | with_reducible assumption
          | (refine fun (h:@Eq Bool _ _)=>?_;exfalso;rw [b1] at h;simp at h;done)
          | (refine Exists.intro (⟨x.c,x.n 6,x.g 6 0,x.n 7,x.g 7 0⟩:AD) ?_)
          | (with_reducible exact kA)
          | (with_reducible exact hcap)
          | (show rng _;exact ⟨by omega,by omega⟩)
          | ((with_reducible show @Eq (List SV) _ _);exact rfl)
          | ((with_reducible show @Eq (List Ch) _ _);exact rfl)
          | (exact congrArg Value.bool (by rw [hok];exact decide_eq_false c6))
          | (simp only [hok];done)
          | refine And.intro ?_ ?_
          | apply Exists.intro
          | (refine fun (h:@Eq Bool _ _)=>?_;exfalso;first | (simp [a1,a2,a3,a4,a5,a6,a7,a8,na8] at h;done) | (simp [a1,a2,a3,a4,a5,a6,a7,a8,na8] at h;omega))
          | intro _
          | omega
          | exact rfl)
         all_goals exact false
        ·have na8:=ieq_ne a8
         rcases bcase (prtB x) with a9 | a9
         ·have hok:ctB x=false:=by
           have a9_:=a9
           rw [prtB] at a9_
           simp only [ctB]
           cases r1:rfB (x.n 9) (x.g 9 0) (x.i 44) <;> cases r2:bksB x <;> simp_all
          repeat' (first
           | with_reducible exact rfl
           | exact True.intro
           | with_reducible assumption
           | (refine fun (h:@Eq Bool _ _)=>?_;exfalso;rw [b1] at h;simp at h;done)
           | (refine Exists.intro (⟨x.c,x.n 6,x.g 6 0,x.n 7,x.g 7 0⟩:AD) ?_)
           | (with_reducible exact kA)
           | (with_reducible exact hcap)
           | (show rng _;exact ⟨by omega,by omega⟩)
           | ((with_reducible show @Eq (List SV) _ _);exact rfl)
           | ((with_reducible show @Eq (List Ch) _ _);exact rfl)
           | (exact congrArg Value.bool (by rw [hok];exact decide_eq_false c6))
           | (simp only [hok];done)
           | refine And.intro ?_ ?_
           | apply Exists.intro
           | (refine fun (h:@Eq Bool _ _)=>?_;exfalso;first | (simp [a1,a2,a3,a4,a5,a6,a7,a8,na8,a9] at h;done) | (simp [a1,a2,a3,a4,a5,a6,a7,a8,na8,a9] at h;omega))
           | intro _
           | omega
           | exact rfl)
          all_goals exact false
         ·skip
          have b9:bksB x=true:=by simp only [prtB,Bool.and_eq_true] at a9;exact a9.2
          have a9_:rfB (x.n 9) (x.g 9 0) (x.i 44)=true:=by simp only [prtB,Bool.and_eq_true] at a9;exact a9.1
          rcases bcase (quB (x.n 13) (x.g 13) (x.h 13) (lineN (ifZ (sprB (x.n 8) (x.g 8 0) (x.i 43) (x.i 0) (x.i 1) (x.i 2) (x.i 3)) (x.i 0)) (ifZ (sprB (x.n 8) (x.g 8 0) (x.i 43) (x.i 0) (x.i 1) (x.i 2) (x.i 3)) (x.i 1)) (ifZ (sprB (x.n 8) (x.g 8 0) (x.i 43) (x.i 0) (x.i 1) (x.i 2) (x.i 3)) (x.i 2-x.i 43)) (ifZ (sprB (x.n 8) (x.g 8 0) (x.i 43) (x.i 0) (x.i 1) (x.i 2) (x.i 3)) (x.i 3)))) with b1 | b1
          ·have hok:ctB x=false:=by simp only [ctB,b1,Bool.false_and,Bool.and_false]
           repeat' (first
            | with_reducible exact rfl
            | exact True.intro
            | with_reducible assumption
            | (refine fun (h:@Eq Bool _ _)=>?_;exfalso;rw [b1] at h;simp at h;done)
            | (refine Exists.intro (⟨x.c,x.n 6,x.g 6 0,x.n 7,x.g 7 0⟩:AD) ?_)
            | (with_reducible exact kA)
            | (with_reducible exact hcap)
            | (show rng _;exact ⟨by omega,by omega⟩)
            | ((with_reducible show @Eq (List SV) _ _);exact rfl)
            | ((with_reducible show @Eq (List Ch) _ _);exact rfl)
            | (exact congrArg Value.bool (by rw [hok];exact decide_eq_false c6))
            | (simp only [hok];done)
            | refine And.intro ?_ ?_
            | apply Exists.intro
            | (refine fun (h:@Eq Bool _ _)=>?_;exfalso;first | (simp [a1,a2,a3,a4,a5,a6,a7,a8,na8,a9,b1] at h;done) | (simp [a1,a2,a3,a4,a5,a6,a7,a8,na8,a9,b1] at h;omega))
            | intro _
            | omega
            | exact rfl)
           all_goals exact false
          ·skip
           have b1_:=b1
           rw [a7] at b1_
           rcases bcase (shB (x.n 14) (x.g 14 0) (x.g 14 1)) with b2 | b2
           ·have hok:ctB x=false:=by simp only [ctB,b2,Bool.false_and,Bool.and_false]
            repeat' (first
             | with_reducible exact rfl
             | exact True.intro
             | with_reducible assumption
             | (refine fun (h:@Eq Bool _ _)=>?_;exfalso;rw [b1] at h;simp at h;done)
             | (refine Exists.intro (⟨x.c,x.n 6,x.g 6 0,x.n 7,x.g 7 0⟩:AD) ?_)
             | (with_reducible exact kA)
             | (with_reducible exact hcap)
             | (show rng _;exact ⟨by omega,by omega⟩)
             | ((with_reducible show @Eq (List SV) _ _);exact rfl)
             | ((with_reducible show @Eq (List Ch) _ _);exact rfl)
             | (exact congrArg Value.bool (by rw [hok];exact decide_eq_false c6))
             | (simp only [hok];done)
             | refine And.intro ?_ ?_
             | apply Exists.intro
             | (refine fun (h:@Eq Bool _ _)=>?_;exfalso;first | (simp [a1,a2,a3,a4,a5,a6,a7,a8,na8,a9,b1,b2] at h;done) | (simp [a1,a2,a3,a4,a5,a6,a7,a8,na8,a9,b1,b2] at h;omega))
             | intro _
             | omega
             | exact rfl)
            all_goals exact false
           ·skip
            rcases bcase (ieq (x.n 14:Int) 4) with b3 | b3
            ·have nb3:=ieq_ne b3
             have hok:ctB x=false:=by simp only [ctB,b3,Bool.false_and,Bool.and_false]
             repeat' (first
              | with_reducible exact rfl
              | exact True.intro
              | with_reducible assumption
              | (refine fun (h:@Eq Bool _ _)=>?_;exfalso;rw [b1] at h;simp at h;done)
              | (refine Exists.intro (⟨x.c,x.n 6,x.g 6 0,x.n 7,x.g 7 0⟩:AD) ?_)
              | (with_reducible exact kA)
              | (with_reducible exact hcap)
              | (show rng _;exact ⟨by omega,by omega⟩)
              | ((with_reducible show @Eq (List SV) _ _);exact rfl)
              | ((with_reducible show @Eq (List Ch) _ _);exact rfl)
              | (exact congrArg Value.bool (by rw [hok];exact decide_eq_false c6))
              | (simp only [hok];done)
              | refine And.intro ?_ ?_
              | apply Exists.intro
              | (refine fun (h:@Eq Bool _ _)=>?_;exfalso;first | (simp [a1,a2,a3,a4,a5,a6,a7,a8,na8,a9,b1,b2,b3,nb3] at h;done) | (simp [a1,a2,a3,a4,a5,a6,a7,a8,na8,a9,b1,b2,b3,nb3] at h;omega))
              | intro _
              | omega
              | exact rfl)
             all_goals exact false
            ·have nb3:=ieq_ne b3
             rcases bcase (drB (x.i 45) (x.i 46)) with b4 | b4
             ·have hok:ctB x=false:=by simp only [ctB,b4,Bool.false_and,Bool.and_false]
              repeat' (first
               | with_reducible exact rfl
               | exact True.intro
               | with_reducible assumption
               | (refine fun (h:@Eq Bool _ _)=>?_;exfalso;rw [b1] at h;simp at h;done)
               | (refine Exists.intro (⟨x.c,x.n 6,x.g 6 0,x.n 7,x.g 7 0⟩:AD) ?_)
               | (with_reducible exact kA)
               | (with_reducible exact hcap)
               | (show rng _;exact ⟨by omega,by omega⟩)
               | ((with_reducible show @Eq (List SV) _ _);exact rfl)
               | ((with_reducible show @Eq (List Ch) _ _);exact rfl)
               | (exact congrArg Value.bool (by rw [hok];exact decide_eq_false c6))
               | (simp only [hok];done)
               | refine And.intro ?_ ?_
               | apply Exists.intro
               | (refine fun (h:@Eq Bool _ _)=>?_;exfalso;first | (simp [a1,a2,a3,a4,a5,a6,a7,a8,na8,a9,b1,b2,b3,nb3,b4] at h;done) | (simp [a1,a2,a3,a4,a5,a6,a7,a8,na8,a9,b1,b2,b3,nb3,b4] at h;omega))
               | intro _
               | omega
               | exact rfl)
              all_goals exact false
             ·skip
              rcases bcase (powB (x.i 47) (x.i 48) (x.i 49)) with b5 | b5
              ·have hok:ctB x=false:=by simp only [ctB,b5,Bool.false_and,Bool.and_false]
               repeat' (first
                | with_reducible exact rfl
                | exact True.intro
                | with_reducible assumption
                | (refine fun (h:@Eq Bool _ _)=>?_;exfalso;rw [b1] at h;simp at h;done)
                | (refine Exists.intro (⟨x.c,x.n 6,x.g 6 0,x.n 7,x.g 7 0⟩:AD) ?_)
                | (with_reducible exact kA)
                | (with_reducible exact hcap)
                | (show rng _;exact ⟨by omega,by omega⟩)
                | ((with_reducible show @Eq (List SV) _ _);exact rfl)
                | ((with_reducible show @Eq (List Ch) _ _);exact rfl)
                | (exact congrArg Value.bool (by rw [hok];exact decide_eq_false c6))
                | (simp only [hok];done)
                | refine And.intro ?_ ?_
                | apply Exists.intro
                | (refine fun (h:@Eq Bool _ _)=>?_;exfalso;first | (simp [a1,a2,a3,a4,a5,a6,a7,a8,na8,a9,b1,b2,b3,nb3,b4,b5] at h;done) | (simp [a1,a2,a3,a4,a5,a6,a7,a8,na8,a9,b1,b2,b3,nb3,b4,b5] at h;omega))
                | intro _
                | omega
                | exact rfl)
               all_goals exact false
              ·skip
               rcases bcase (ieq (x.i 47) (x.i 42)) with b6 | b6
               ·have nb6:=ieq_ne b6
                have hok:ctB x=false:=by simp only [ctB,b6,Bool.false_and,Bool.and_false]
                repeat' (first
                 | with_reducible exact rfl
                 | exact True.intro
                 | with_reducible assumption
                 | (refine fun (h:@Eq Bool _ _)=>?_;exfalso;rw [b1] at h;simp at h;done)
                 | (refine Exists.intro (⟨x.c,x.n 6,x.g 6 0,x.n 7,x.g 7 0⟩:AD) ?_)
                 | (with_reducible exact kA)
                 | (with_reducible exact hcap)
                 | (show rng _;exact ⟨by omega,by omega⟩)
                 | ((with_reducible show @Eq (List SV) _ _);exact rfl)
                 | ((with_reducible show @Eq (List Ch) _ _);exact rfl)
                 | (exact congrArg Value.bool (by rw [hok];exact decide_eq_false c6))
                 | (simp only [hok];done)
                 | refine And.intro ?_ ?_
                 | apply Exists.intro
                 | (refine fun (h:@Eq Bool _ _)=>?_;exfalso;first | (simp [a1,a2,a3,a4,a5,a6,a7,a8,na8,a9,b1,b2,b3,nb3,b4,b5,b6,nb6] at h;done) | (simp [a1,a2,a3,a4,a5,a6,a7,a8,na8,a9,b1,b2,b3,nb3,b4,b5,b6,nb6] at h;omega))
                 | intro _
                 | omega
                 | exact rfl)
                all_goals exact false
               ·have nb6:=ieq_ne b6
                rcases Classical.em (¬ (x.i 48≤x.i 41)) with b7 | b7
                ·have hok:ctB x=false:=by simp only [ctB,decide_eq_false b7,Bool.false_and,Bool.and_false]
                 repeat' (first
                  | with_reducible exact rfl
                  | exact True.intro
                  | with_reducible assumption
                  | (refine fun (h:@Eq Bool _ _)=>?_;exfalso;rw [b1] at h;simp at h;done)
                  | (refine Exists.intro (⟨x.c,x.n 6,x.g 6 0,x.n 7,x.g 7 0⟩:AD) ?_)
                  | (with_reducible exact kA)
                  | (with_reducible exact hcap)
                  | (show rng _;exact ⟨by omega,by omega⟩)
                  | ((with_reducible show @Eq (List SV) _ _);exact rfl)
                  | ((with_reducible show @Eq (List Ch) _ _);exact rfl)
                  | (exact congrArg Value.bool (by rw [hok];exact decide_eq_false c6))
                  | (simp only [hok];done)
                  | refine And.intro ?_ ?_
                  | apply Exists.intro
                  | (refine fun (h:@Eq Bool _ _)=>?_;exfalso;first | (simp [a1,a2,a3,a4,a5,a6,a7,a8,na8,a9,b1,b2,b3,nb3,b4,b5,b6,nb6,b7] at h;done) | (simp [a1,a2,a3,a4,a5,a6,a7,a8,na8,a9,b1,b2,b3,nb3,b4,b5,b6,nb6,b7] at h;omega))
                  | intro _
                  | omega
                  | exact rfl)
                 all_goals exact false
                ·replace b7:=Classical.not_not.1 b7
                 rcases bcase (btw (x.i 51) 1 100000) with c1 | c1
                 ·have hok:ctB x=false:=by simp only [ctB,c1,Bool.false_and,Bool.and_false]
                  repeat' (first
                   | with_reducible exact rfl
                   | exact True.intro
                   | with_reducible assumption
                   | (refine fun (h:@Eq Bool _ _)=>?_;exfalso;rw [b1] at h;simp at h;done)
                   | (refine Exists.intro (⟨x.c,x.n 6,x.g 6 0,x.n 7,x.g 7 0⟩:AD) ?_)
                   | (with_reducible exact kA)
                   | (with_reducible exact hcap)
                   | (show rng _;exact ⟨by omega,by omega⟩)
                   | ((with_reducible show @Eq (List SV) _ _);exact rfl)
                   | ((with_reducible show @Eq (List Ch) _ _);exact rfl)
                   | (exact congrArg Value.bool (by rw [hok];exact decide_eq_false c6))
                   | (simp only [hok];done)
                   | refine And.intro ?_ ?_
                   | apply Exists.intro
                   | (refine fun (h:@Eq Bool _ _)=>?_;exfalso;first | (simp [a1,a2,a3,a4,a5,a6,a7,a8,na8,a9,b1,b2,b3,nb3,b4,b5,b6,nb6,b7,c1] at h;done) | (simp [a1,a2,a3,a4,a5,a6,a7,a8,na8,a9,b1,b2,b3,nb3,b4,b5,b6,nb6,b7,c1] at h;omega))
                   | intro _
                   | omega
                   | exact rfl)
                  all_goals exact false
                 ·skip
                  rcases bcase (btw (x.i 52) 1 (x.i 51)) with c2 | c2
                  ·have hok:ctB x=false:=by simp only [ctB,c2,Bool.false_and,Bool.and_false]
                   repeat' (first
                    | with_reducible exact rfl
                    | exact True.intro
                    | with_reducible assumption
                    | (refine fun (h:@Eq Bool _ _)=>?_;exfalso;rw [b1] at h;simp at h;done)
                    | (refine Exists.intro (⟨x.c,x.n 6,x.g 6 0,x.n 7,x.g 7 0⟩:AD) ?_)
                    | (with_reducible exact kA)
                    | (with_reducible exact hcap)
                    | (show rng _;exact ⟨by omega,by omega⟩)
                    | ((with_reducible show @Eq (List SV) _ _);exact rfl)
                    | ((with_reducible show @Eq (List Ch) _ _);exact rfl)
                    | (exact congrArg Value.bool (by rw [hok];exact decide_eq_false c6))
                    | (simp only [hok];done)
                    | refine And.intro ?_ ?_
                    | apply Exists.intro
                    | (refine fun (h:@Eq Bool _ _)=>?_;exfalso;first | (simp [a1,a2,a3,a4,a5,a6,a7,a8,na8,a9,b1,b2,b3,nb3,b4,b5,b6,nb6,b7,c1,c2] at h;done) | (simp [a1,a2,a3,a4,a5,a6,a7,a8,na8,a9,b1,b2,b3,nb3,b4,b5,b6,nb6,b7,c1,c2] at h;omega))
                    | intro _
                    | omega
                    | exact rfl)
                   all_goals exact false
                  ·skip
                   rcases bcase (btw (x.i 50) 0 ((lineN (x.i 0) (x.i 1) (x.i 2) (x.i 3))-1)) with c3 | c3
                   ·have hok:ctB x=false:=by simp only [ctB,c3,Bool.false_and,Bool.and_false]
                    repeat' (first
                     | with_reducible exact rfl
                     | exact True.intro
                     | with_reducible assumption
                     | (refine fun (h:@Eq Bool _ _)=>?_;exfalso;rw [b1] at h;simp at h;done)
                     | (refine Exists.intro (⟨x.c,x.n 6,x.g 6 0,x.n 7,x.g 7 0⟩:AD) ?_)
                     | (with_reducible exact kA)
                     | (with_reducible exact hcap)
                     | (show rng _;exact ⟨by omega,by omega⟩)
                     | ((with_reducible show @Eq (List SV) _ _);exact rfl)
                     | ((with_reducible show @Eq (List Ch) _ _);exact rfl)
                     | (exact congrArg Value.bool (by rw [hok];exact decide_eq_false c6))
                     | (simp only [hok];done)
                     | refine And.intro ?_ ?_
                     | apply Exists.intro
                     | (refine fun (h:@Eq Bool _ _)=>?_;exfalso;first | (simp [a1,a2,a3,a4,a5,a6,a7,a8,na8,a9,b1,b2,b3,nb3,b4,b5,b6,nb6,b7,c1,c2,c3] at h;done) | (simp [a1,a2,a3,a4,a5,a6,a7,a8,na8,a9,b1,b2,b3,nb3,b4,b5,b6,nb6,b7,c1,c2,c3] at h;omega))
                     | intro _
                     | omega
                     | exact rfl)
                    all_goals exact false
                   ·skip
                    rcases bcase (ersB (x.n 15) (x.g 15)) with c4 | c4
                    ·have hok:ctB x=false:=by simp only [ctB,c4,Bool.false_and,Bool.and_false]
                     repeat' (first
                      | with_reducible exact rfl
                      | exact True.intro
                      | with_reducible assumption
                      | (refine fun (h:@Eq Bool _ _)=>?_;exfalso;rw [b1] at h;simp at h;done)
                      | (refine Exists.intro (⟨x.c,x.n 6,x.g 6 0,x.n 7,x.g 7 0⟩:AD) ?_)
                      | (with_reducible exact kA)
                      | (with_reducible exact hcap)
                      | (show rng _;exact ⟨by omega,by omega⟩)
                      | ((with_reducible show @Eq (List SV) _ _);exact rfl)
                      | ((with_reducible show @Eq (List Ch) _ _);exact rfl)
                      | (exact congrArg Value.bool (by rw [hok];exact decide_eq_false c6))
                      | (simp only [hok];done)
                      | refine And.intro ?_ ?_
                      | apply Exists.intro
                      | (refine fun (h:@Eq Bool _ _)=>?_;exfalso;first | (simp [a1,a2,a3,a4,a5,a6,a7,a8,na8,a9,b1,b2,b3,nb3,b4,b5,b6,nb6,b7,c1,c2,c3,c4] at h;done) | (simp [a1,a2,a3,a4,a5,a6,a7,a8,na8,a9,b1,b2,b3,nb3,b4,b5,b6,nb6,b7,c1,c2,c3,c4] at h;omega))
                      | intro _
                      | omega
                      | exact rfl)
                     all_goals exact false
                    ·skip
                     rcases Classical.em (¬ ((x.n 16:Int)≤2000)) with c5 | c5
                     ·have hok:ctB x=false:=by simp only [ctB,decide_eq_false c5,Bool.false_and,Bool.and_false]
                      repeat' (first
                       | with_reducible exact rfl
                       | exact True.intro
                       | with_reducible assumption
                       | (refine fun (h:@Eq Bool _ _)=>?_;exfalso;rw [b1] at h;simp at h;done)
                       | (refine Exists.intro (⟨x.c,x.n 6,x.g 6 0,x.n 7,x.g 7 0⟩:AD) ?_)
                       | (with_reducible exact kA)
                       | (with_reducible exact hcap)
                       | (show rng _;exact ⟨by omega,by omega⟩)
                       | ((with_reducible show @Eq (List SV) _ _);exact rfl)
                       | ((with_reducible show @Eq (List Ch) _ _);exact rfl)
                       | (exact congrArg Value.bool (by rw [hok];exact decide_eq_false c6))
                       | (simp only [hok];done)
                       | refine And.intro ?_ ?_
                       | apply Exists.intro
                       | (refine fun (h:@Eq Bool _ _)=>?_;exfalso;first | (simp [a1,a2,a3,a4,a5,a6,a7,a8,na8,a9,b1,b2,b3,nb3,b4,b5,b6,nb6,b7,c1,c2,c3,c4,c5] at h;done) | (simp [a1,a2,a3,a4,a5,a6,a7,a8,na8,a9,b1,b2,b3,nb3,b4,b5,b6,nb6,b7,c1,c2,c3,c4,c5] at h;omega))
                       | intro _
                       | omega
                       | exact rfl)
                      all_goals exact false
                     ·replace c5:=Classical.not_not.1 c5
                      rcases Classical.em (¬ ((x.n 17:Int)≤400)) with c6 | c6
                      ·have hok:ctB x=false:=by simp only [ctB,decide_eq_false c6,Bool.false_and,Bool.and_false]
                       repeat' (first
                        | with_reducible exact rfl
                        | exact True.intro
                        | with_reducible assumption
                        | (refine fun (h:@Eq Bool _ _)=>?_;exfalso;rw [b1] at h;simp at h;done)
                        | (refine Exists.intro (⟨x.c,x.n 6,x.g 6 0,x.n 7,x.g 7 0⟩:AD) ?_)
                        | (with_reducible exact kA)
                        | (with_reducible exact hcap)
                        | (show rng _;exact ⟨by omega,by omega⟩)
                        | ((with_reducible show @Eq (List SV) _ _);exact rfl)
                        | ((with_reducible show @Eq (List Ch) _ _);exact rfl)
                        | (exact congrArg Value.bool (by rw [hok];exact decide_eq_false c6))
                        | (simp only [hok];done)
                        | refine And.intro ?_ ?_
                        | apply Exists.intro
                        | (refine fun (h:@Eq Bool _ _)=>?_;exfalso;first | (simp [a1,a2,a3,a4,a5,a6,a7,a8,na8,a9,b1,b2,b3,nb3,b4,b5,b6,nb6,b7,c1,c2,c3,c4,c5,c6] at h;done) | (simp [a1,a2,a3,a4,a5,a6,a7,a8,na8,a9,b1,b2,b3,nb3,b4,b5,b6,nb6,b7,c1,c2,c3,c4,c5,c6] at h;omega))
                        | intro _
                        | omega
                        | exact rfl)
                       all_goals exact false
                      ·replace c6:=Classical.not_not.1 c6
                       have hok:ctB x=true:=by simp only [ctB,b1_,a1,a2,a3,a4,a5,a6,a7,a8,a9_,b9,b1,b2,b3,b4,b5,b6,c1,c2,c3,c4,Bool.and_true,decide_eq_true b7,decide_eq_true c5,decide_eq_true c6]
                       repeat' (first
                        | with_reducible exact rfl
                        | exact True.intro
                        | with_reducible assumption
                        | (refine fun (h:@Eq Bool _ _)=>?_;exfalso;rw [b1] at h;simp at h;done)
                        | (refine Exists.intro (⟨x.c,x.n 6,x.g 6 0,x.n 7,x.g 7 0⟩:AD) ?_)
                        | (with_reducible exact kA)
                        | (with_reducible exact hcap)
                        | (show rng _;exact ⟨by omega,by omega⟩)
                        | ((with_reducible show @Eq (List SV) _ _);exact rfl)
                        | ((with_reducible show @Eq (List Ch) _ _);exact rfl)
                        | (exact congrArg Value.bool (by rw [hok];exact decide_eq_false c6))
                        | (simp only [hok];done)
                        | (exact congrArg Value.bool (by rw [hok];exact decide_eq_true c6))
                        | refine And.intro ?_ ?_
                        | apply Exists.intro
                        | (refine fun (h:@Eq Bool _ _)=>?_;exfalso;first | (simp [a1,a2,a3,a4,a5,a6,a7,a8,na8,a9,b1,b2,b3,nb3,b4,b5,b6,nb6,b7,c1,c2,c3,c4,c5,c6] at h;done) | (simp [a1,a2,a3,a4,a5,a6,a7,a8,na8,a9,b1,b2,b3,nb3,b4,b5,b6,nb6,b7,c1,c2,c3,c4,c5,c6] at h;omega))
                        | intro _
                        | omega
                        | exact rfl)
                       all_goals exact false
end Go.Proofs.YtmnccapnjphmfaaGreat
