/-
  FnExactStoredAddr: a part of the walk (merged and squeezed by program: SxSA SxSO).
-/
import Derived.Test.YtmnccapnjphmfaaGreatZbbn
namespace Go.Proofs.YtmnccapnjphmfaaGreat
set_option linter.unusedVariables false
set_option linter.unusedSimpArgs false
open Go.RowKit
set_option maxRecDepth 100000
set_option maxHeartbeats 8000000
theorem staI_T (x:CtD)(o:Nat→Option Addr)(q:Nat→Nat)(so:Nat→Option Addr)(sc:Nat→Nat)(uo:Nat→Option Addr)(uc:Nat→Nat)(vo:Nat→Option Addr)(vc:Nat→Nat)(line:Int):(exFn Tryz.prog {tb:=[(8,sCkI x o q so sc uo uc vo vc),(93,sSto x o q so sc uo uc vo vc line)]} 400 Tryz.f11 ([.a (.agg (ctS 0 x o q)),.a (.c (.int line))]) (ctR 0 x o q so sc uo uc vo vc) (fun y_ _=>y_.den=.tuple #[.agg #[.int .i64 (stK x line),.int .i64 (stR x line),.int .i64 (stC x line)],.bool (stB x line)]))=(
 (fun b:Int=>(fun d:Bool=>(fun g:Value=>(fun h:Int=>(fun j:SV=>(fun k:List SV=>(fun l:List SV=>(fun m:List Ch=>∀ n p:Nat,n=n∧(k=k∧m=m∧ctC x q)∧((! (ctB x))=true→p=p∧p=p∧(Wu [Wa [Wi 0,Wi 0,Wi 0],Wb false])=g)∧((! (ctB x))=false→n=n∧(l=l∧m=m∧ctC2 x q)∧p=p∧p=p∧(Wu [Wa [Wi (ifZ d h),Wi (ifZ d (srV (x.4 8 0) ((x.1 2)-(x.1 43)) h (mlR (x.1 21) b ((x.1 2)-(x.1 43)) (x.1 3) line))),Wi (ifZ d (mlC (x.1 21) b (x.1 3) line))],Wb d])=g)) [Hr false (o 0) 0 1 (x.3 0) 0 [fun m=>Ci (x.4 0 0 m)],Hr false (o 1) 0 1 (x.3 1) 0 [fun m=>Ci (x.4 1 0 m)],Hr false (o 2) 0 2 (x.3 2) 0 [fun m=>Cb (x.5 2 0 m),fun m=>Ci (x.4 2 1 m)],Hr false (o 3) 0 1 (x.3 3) 0 [fun m=>Ci (x.4 3 0 m)],Hr false (o 4) 0 1 (x.3 4) 0 [fun m=>Ci (x.4 4 0 m)],Hr false (o 5) 0 2 x.6.1 0 [fun m=>Cs 18 (so m) (x.6.2 m) (sc m),fun m=>Cb (x.6.4 m)],Hr false (o 6) 0 1 (x.3 6) 0 [fun m=>Ci (x.4 6 0 m)],Hr false (o 7) 0 1 (x.3 7) 0 [fun m=>Ci (x.4 7 0 m)],Hr false (o 8) 0 1 (x.3 8) 0 [fun m=>Ci (x.4 8 0 m)],Hr false (o 9) 0 1 (x.3 9) 0 [fun m=>Ci (x.4 9 0 m)],Hr false (o 10) 0 3 x.7.1 0 [fun m=>Cs 19 (uo m) (x.7.2 m) (uc m),fun m=>Cs 20 (vo m) (x.7.4 m) (vc m),fun m=>Ci (x.7.6 m)],Hr false (o 11) 0 1 (x.3 11) 0 [fun m=>Ci (x.4 11 0 m)],Hr false (o 12) 0 3 (x.3 12) 0 [fun m=>Ci (x.4 12 0 m),fun m=>Ci (x.4 12 1 m),fun m=>Ci (x.4 12 2 m)],Hr false (o 13) 0 6 (x.3 13) 0 [fun m=>Ci (x.4 13 0 m),fun m=>Ci (x.4 13 1 m),fun m=>Ci (x.4 13 2 m),fun m=>Cb (x.5 13 3 m),fun m=>Ci (x.4 13 4 m),fun m=>Ci (x.4 13 5 m)],Hr false (o 14) 0 2 (x.3 14) 0 [fun m=>Ci (x.4 14 0 m),fun m=>Ci (x.4 14 1 m)],Hr false (o 15) 0 3 (x.3 15) 0 [fun m=>Ci (x.4 15 0 m),fun m=>Ci (x.4 15 1 m),fun m=>Ci (x.4 15 2 m)],Hr false (o 16) 0 5 (x.3 16) 0 [fun m=>Ci (x.4 16 0 m),fun m=>Ci (x.4 16 1 m),fun m=>Ci (x.4 16 2 m),fun m=>Ci (x.4 16 3 m),fun m=>Ci (x.4 16 4 m)],Hr false (o 17) 0 4 (x.3 17) 0 [fun m=>Ci (x.4 17 0 m),fun m=>Ci (x.4 17 1 m),fun m=>Ci (x.4 17 2 m),fun m=>Ci (x.4 17 3 m)],Ho false (symRows false 0 x.6 so (fun m=>0)),Ho false (symRows false 0 (CD.mk x.7.1 x.7.2 x.7.3 (fun m=>false)) uo (fun m=>0)),Ho false (symRows false 0 (CD.mk x.7.1 x.7.4 x.7.5 (fun m=>false)) vo (fun m=>0))]) [j,iV line]) [j]) (aV [Ci (x.1 0),Ci (x.1 1),Ci (x.1 2),Ci (x.1 3),Ci (x.1 4),Ci (x.1 5),Ci (x.1 6),Ci (x.1 7),Ci (x.1 8),Ci (x.1 9),Ci (x.1 10),Ci (x.1 11),Ci (x.1 12),Ci (x.1 13),Ci (x.1 14),Ci (x.1 15),Ci (x.1 16),Ci (x.1 17),Ci (x.1 18),Ci (x.1 19),Ci (x.1 20),Ci (x.1 21),Cb (x.2 0),Ci (x.1 22),Ci (x.1 23),Ci (x.1 24),Ci (x.1 25),Ci (x.1 26),Ci (x.1 27),Ci (x.1 28),Ci (x.1 29),Ci (x.1 30),Ci (x.1 31),Cs 0 (o 0) (x.3 0) (q 0),Ci (x.1 32),Ci (x.1 33),Ci (x.1 34),Ci (x.1 35),Ci (x.1 36),Ci (x.1 37),Ci (x.1 38),Cs 1 (o 1) (x.3 1) (q 1),Ci (x.1 39),Ci (x.1 40),Cb (x.2 1),Ci (x.1 41),Cs 2 (o 2) (x.3 2) (q 2),Ci (x.1 42),Cs 3 (o 3) (x.3 3) (q 3),Cs 4 (o 4) (x.3 4) (q 4),Cs 5 (o 5) x.6.1 (q 5),Cs 6 (o 6) (x.3 6) (q 6),Cs 7 (o 7) (x.3 7) (q 7),Ci (x.1 43),Cs 8 (o 8) (x.3 8) (q 8),Cs 9 (o 9) (x.3 9) (q 9),Ci (x.1 44),Cb (x.2 2),Cs 10 (o 10) x.7.1 (q 10),Cs 11 (o 11) (x.3 11) (q 11),Cs 12 (o 12) (x.3 12) (q 12),Cs 13 (o 13) (x.3 13) (q 13),Cs 14 (o 14) (x.3 14) (q 14),Cb (x.2 3),Ci (x.1 45),Ci (x.1 46),Ci (x.1 47),Ci (x.1 48),Ci (x.1 49),Ci (x.1 50),Ci (x.1 51),Ci (x.1 52),Cs 15 (o 15) (x.3 15) (q 15),Cs 16 (o 16) (x.3 16) (q 16),Cs 17 (o 17) (x.3 17) (q 17)])) (mlK (x.1 21) (x.2 0) b ((x.1 2)-(x.1 43)) (x.1 3) line)) (Wu [Wa [Wi (stK x line),Wi (stR x line),Wi (stC x line)],Wb (stB x line)])) (btw line (0:Int) ((lineN (x.1 0) (x.1 1) ((x.1 2)-(x.1 43)) (x.1 3))-(1:Int)))) (bankN (x.1 0) (x.1 1) ((x.1 2)-(x.1 43)) (x.1 3))):=by kernel_rfl
theorem staI_any (x:CtD)(o:Nat→Option Addr)(q:Nat→Nat)(so:Nat→Option Addr)(sc:Nat→Nat)(uo:Nat→Option Addr)(uc:Nat→Nat)(vo:Nat→Option Addr)(vc:Nat→Nat)(line:Int)(w:World)(hA:∀ c∈ctR 0 x o q so sc uo uc vo vc,c.own=false∧c.sat w)(hc1:cap1Ct x)(hR:rngC (x.i 2))(hq:x.n 8≤q 8∧x.n 13≤q 13∧x.n 15≤q 15):Calls Tryz.prog 11 #[ctV x o q,.int .i64 line] w fun e w'=>e=.returned (.tuple #[.agg #[.int .i64 (stK x line),.int .i64 (stR x line),.int .i64 (stC x line)],.bool (stB x line)])∧Below w.heap.size w w':=by
 refine fnB (tb:=[(8,sCkI x o q so sc uo uc vo vc),(93,sSto x o q so sc uo uc vo vc line)]) ⟨(sCkI_ok x o q so sc uo uc vo vc),(sSto_ok x o q so sc uo uc vo vc line),trivial⟩ Tryz.func11 (@Eq.mpr _ _ (staI_T x o q so sc uo uc vo vc line) ?_) (HS.seenAll (fun _=>False) _ hA) (fun v ch' w' hv hs=>⟨by rw [hv],hs.below⟩)
 dsimp -zeta -proj -iota -eta -failIfUnchanged (etaStruct:=.none) only
 clear hA
 have hcc:ctC x q:=⟨hc1,hR,hq⟩
 have hn:=hc1.1
 have l8:lenC (x.n 8):=by have h:x.n 8≤2097152:=(capOf1Ct hc1).1.2.2.2.2.2.2.2.1;show _≤_;omega
 obtain ⟨q8,q13,q15⟩:=hq
 have e8:leC (x.n 8) (x.n 8):=Nat.le_refl _
 clear hn
 rcases bcase (ctB x) with hct | hct
 ·have hok:stB x line=false:=by simp only [stB,hct,Bool.false_and]
  repeat' (first
   | with_reducible exact rfl
   | exact True.intro
   | with_reducible assumption
   | (show @Eq (List _) _ _;exact rfl)
   | (with_reducible exact hR)
   | (show rng _;exact ⟨by omega,by omega⟩)
   | ((with_reducible show @Eq (List Ch) _ _) <;> exact rfl)
   | exact hcc
   | (simp only [stK,stR,stC,hok] <;> exact rfl)
   | refine And.intro ?_ ?_
   | apply Exists.intro
   | (refine fun (h:@Eq Bool _ _)=>?_;exfalso;first | (simp [hct] at h;done) | (simp [hct] at h;omega))
   | intro _
   | omega
   | exact rfl)
 ·have hcc2:ctC2 x q:=⟨hc1,hR,⟨q8,q13,q15⟩,hct⟩
  have hst:stB x line=btw line 0 (lineN (x.i 0) (x.i 1) (x.i 2-x.i 43) (x.i 3)-1):=by simp only [stB,hct,Bool.true_and]
  have hlb:=line_bd (ifZ (sprB (x.n 8) (x.g 8 0) (x.i 43) (x.i 0) (x.i 1) (x.i 2) (x.i 3)) (x.i 0)) (ifZ (sprB (x.n 8) (x.g 8 0) (x.i 43) (x.i 0) (x.i 1) (x.i 2) (x.i 3)) (x.i 1)) (ifZ (sprB (x.n 8) (x.g 8 0) (x.i 43) (x.i 0) (x.i 1) (x.i 2) (x.i 3)) (x.i 2-x.i 43)) (ifZ (sprB (x.n 8) (x.g 8 0) (x.i 43) (x.i 0) (x.i 1) (x.i 2) (x.i 3)) (x.i 3))
  obtain ⟨hlb1,hlb2⟩:=hlb
  repeat' (first
   | with_reducible exact rfl
   | exact True.intro
   | with_reducible assumption
   | (show @Eq (List _) _ _;exact rfl)
   | (with_reducible exact hR)
   | (show rng _;exact ⟨by omega,by omega⟩)
   | ((with_reducible show @Eq (List Ch) _ _) <;> exact rfl)
   | exact hcc
   | exact hcc2
   | (simp only [stK,stR,stC,hst] <;> exact rfl)
   | refine And.intro ?_ ?_
   | apply Exists.intro
   | (refine fun (h:@Eq Bool _ _)=>?_;exfalso;first | (simp [hct] at h;done) | (simp [hct] at h;omega))
   | intro _
   | omega
   | exact rfl)
def sL35:Sm:=inlM Tryz.prog {tb:=[(159,sMl)]} 300 Tryz.f92
theorem sL35_ok:SmOK Tryz.prog 92 sL35:=inlM_ok mixed (E:={tb:=[(159,sMl)]}) ⟨sMl_ok_mlS,trivial⟩ Tryz.func92 Tryz.call92 (fun _ _ _=>loopsOK_nil _ _ _)
theorem staS_T (x:CtD)(o:Nat→Option Addr)(q:Nat→Nat)(so:Nat→Option Addr)(sc:Nat→Nat)(uo:Nat→Option Addr)(uc:Nat→Nat)(vo:Nat→Option Addr)(vc:Nat→Nat)(line:Int):(exFn Tryz.prog {tb:=[(6,sCkS x o q so sc uo uc vo vc),(37,sRgOk),(36,sLine),(28,sBtw),(92,sL35)]} 400 Tryz.f10 ([.a (.agg (ctS 0 x o q)),.a (.c (.int line))]) (ctR 0 x o q so sc uo uc vo vc) (fun y_ _=>y_.den=.tuple #[.agg #[.int .i64 (stK x line),.int .i64 (stR x line),.int .i64 (stC x line)],.bool (stB x line)]))=(
 (fun b:Value=>(fun d:Int=>(fun g:Bool=>(fun h:Value=>(fun j:Int=>(fun k:Int=>(fun l:Nat=>(fun m:Value=>(fun n:Prop=>(fun p:List SV=>(fun r:List Ch=>∀ s t:Nat,(fun u:Prop=>(fun v:Prop=>s=s∧(p=p∧r=r∧ctC x q)∧((! (ctB x))=false→s=s∧s=s∧∃ w:Nat→Int,(fun y:Bool=>(fun z:Int=>(fun B:Bool=>((o 8)=(o 8)∧(x.3 8)=(x.3 8)∧[fun C=>Ci (x.4 8 0 C)]=[fun C=>Ci (w C)])∧(lenC (x.3 8)∧leC (x.3 8) (x.3 8)∧leC (x.3 8) (q 8)∧rngC (x.1 2))∧rng (z-(1:Int))∧(B=true→v)∧(B=false→∀ C:Nat,s=s∧∀ D:Nat,D=D∧D=D∧s=s∧rng ((x.1 2)-(x.1 22))∧D=D∧True∧D=D∧s=s∧(True∧∀ E:Nat,True∧E=E∧True∧s=s∧E=E∧D=D∧rng (k*((x.1 2)-(x.1 22)))∧E=E∧rng ((k*((x.1 2)-(x.1 22)))+j)∧(o 8)=(o 8)∧(x.3 8)=(x.3 8)∧n∧(o 8)=(o 8)∧l<(x.3 8)∧E=E∧True∧E=E∧C=C∧C=C∧u)∧∀ E:Nat,True∧True∧E=E∧True∧s=s∧E=E∧D=D∧rng (k*((x.1 2)-(x.1 22)))∧E=E∧rng ((k*((x.1 2)-(x.1 22)))+j)∧(o 8)=(o 8)∧(x.3 8)=(x.3 8)∧n∧(o 8)=(o 8)∧l<(x.3 8)∧E=E∧True∧E=E∧C=C∧C=C∧u)) (! (btw line (0:Int) (z-(1:Int))))) (lineN (ifZ y (x.1 0)) (ifZ y (x.1 1)) (ifZ y ((x.1 2)-(x.1 43))) (ifZ y (x.1 3)))) (sprB (x.3 8) w (x.1 43) (x.1 0) (x.1 1) (x.1 2) (x.1 3)))∧((! (ctB x))=true→v)) (t=t∧t=t∧b=h)) (t=t∧t=t∧m=h)) [Hr false (o 0) 0 1 (x.3 0) 0 [fun r=>Ci (x.4 0 0 r)],Hr false (o 1) 0 1 (x.3 1) 0 [fun r=>Ci (x.4 1 0 r)],Hr false (o 2) 0 2 (x.3 2) 0 [fun r=>Cb (x.5 2 0 r),fun r=>Ci (x.4 2 1 r)],Hr false (o 3) 0 1 (x.3 3) 0 [fun r=>Ci (x.4 3 0 r)],Hr false (o 4) 0 1 (x.3 4) 0 [fun r=>Ci (x.4 4 0 r)],Hr false (o 5) 0 2 x.6.1 0 [fun r=>Cs 18 (so r) (x.6.2 r) (sc r),fun r=>Cb (x.6.4 r)],Hr false (o 6) 0 1 (x.3 6) 0 [fun r=>Ci (x.4 6 0 r)],Hr false (o 7) 0 1 (x.3 7) 0 [fun r=>Ci (x.4 7 0 r)],Hr false (o 8) 0 1 (x.3 8) 0 [fun r=>Ci (x.4 8 0 r)],Hr false (o 9) 0 1 (x.3 9) 0 [fun r=>Ci (x.4 9 0 r)],Hr false (o 10) 0 3 x.7.1 0 [fun r=>Cs 19 (uo r) (x.7.2 r) (uc r),fun r=>Cs 20 (vo r) (x.7.4 r) (vc r),fun r=>Ci (x.7.6 r)],Hr false (o 11) 0 1 (x.3 11) 0 [fun r=>Ci (x.4 11 0 r)],Hr false (o 12) 0 3 (x.3 12) 0 [fun r=>Ci (x.4 12 0 r),fun r=>Ci (x.4 12 1 r),fun r=>Ci (x.4 12 2 r)],Hr false (o 13) 0 6 (x.3 13) 0 [fun r=>Ci (x.4 13 0 r),fun r=>Ci (x.4 13 1 r),fun r=>Ci (x.4 13 2 r),fun r=>Cb (x.5 13 3 r),fun r=>Ci (x.4 13 4 r),fun r=>Ci (x.4 13 5 r)],Hr false (o 14) 0 2 (x.3 14) 0 [fun r=>Ci (x.4 14 0 r),fun r=>Ci (x.4 14 1 r)],Hr false (o 15) 0 3 (x.3 15) 0 [fun r=>Ci (x.4 15 0 r),fun r=>Ci (x.4 15 1 r),fun r=>Ci (x.4 15 2 r)],Hr false (o 16) 0 5 (x.3 16) 0 [fun r=>Ci (x.4 16 0 r),fun r=>Ci (x.4 16 1 r),fun r=>Ci (x.4 16 2 r),fun r=>Ci (x.4 16 3 r),fun r=>Ci (x.4 16 4 r)],Hr false (o 17) 0 4 (x.3 17) 0 [fun r=>Ci (x.4 17 0 r),fun r=>Ci (x.4 17 1 r),fun r=>Ci (x.4 17 2 r),fun r=>Ci (x.4 17 3 r)],Ho false (symRows false 0 x.6 so (fun r=>0)),Ho false (symRows false 0 (CD.mk x.7.1 x.7.2 x.7.3 (fun r=>false)) uo (fun r=>0)),Ho false (symRows false 0 (CD.mk x.7.1 x.7.4 x.7.5 (fun r=>false)) vo (fun r=>0))]) [aV [Ci (x.1 0),Ci (x.1 1),Ci (x.1 2),Ci (x.1 3),Ci (x.1 4),Ci (x.1 5),Ci (x.1 6),Ci (x.1 7),Ci (x.1 8),Ci (x.1 9),Ci (x.1 10),Ci (x.1 11),Ci (x.1 12),Ci (x.1 13),Ci (x.1 14),Ci (x.1 15),Ci (x.1 16),Ci (x.1 17),Ci (x.1 18),Ci (x.1 19),Ci (x.1 20),Ci (x.1 21),Cb (x.2 0),Ci (x.1 22),Ci (x.1 23),Ci (x.1 24),Ci (x.1 25),Ci (x.1 26),Ci (x.1 27),Ci (x.1 28),Ci (x.1 29),Ci (x.1 30),Ci (x.1 31),Cs 0 (o 0) (x.3 0) (q 0),Ci (x.1 32),Ci (x.1 33),Ci (x.1 34),Ci (x.1 35),Ci (x.1 36),Ci (x.1 37),Ci (x.1 38),Cs 1 (o 1) (x.3 1) (q 1),Ci (x.1 39),Ci (x.1 40),Cb (x.2 1),Ci (x.1 41),Cs 2 (o 2) (x.3 2) (q 2),Ci (x.1 42),Cs 3 (o 3) (x.3 3) (q 3),Cs 4 (o 4) (x.3 4) (q 4),Cs 5 (o 5) x.6.1 (q 5),Cs 6 (o 6) (x.3 6) (q 6),Cs 7 (o 7) (x.3 7) (q 7),Ci (x.1 43),Cs 8 (o 8) (x.3 8) (q 8),Cs 9 (o 9) (x.3 9) (q 9),Ci (x.1 44),Cb (x.2 2),Cs 10 (o 10) x.7.1 (q 10),Cs 11 (o 11) (x.3 11) (q 11),Cs 12 (o 12) (x.3 12) (q 12),Cs 13 (o 13) (x.3 13) (q 13),Cs 14 (o 14) (x.3 14) (q 14),Cb (x.2 3),Ci (x.1 45),Ci (x.1 46),Ci (x.1 47),Ci (x.1 48),Ci (x.1 49),Ci (x.1 50),Ci (x.1 51),Ci (x.1 52),Cs 15 (o 15) (x.3 15) (q 15),Cs 16 (o 16) (x.3 16) (q 16),Cs 17 (o 17) (x.3 17) (q 17)]]) (0≤((k*((x.1 2)-(x.1 22)))+j)∧((k*((x.1 2)-(x.1 22)))+j)<(((x.3 8):Nat):Int))) (Wu [Wa [Wi k,Wi (x.4 8 0 l),Wi (ifZ g (mlC (x.1 21) d (x.1 3) line))],Wb true])) (Int.toNat ((k*((x.1 2)-(x.1 22)))+j))) (ifZ g (mlK (x.1 21) (x.2 0) d ((x.1 2)-(x.1 22)) (x.1 3) line))) (ifZ g (mlR (x.1 21) d ((x.1 2)-(x.1 22)) (x.1 3) line))) (Wu [Wa [Wi (stK x line),Wi (stR x line),Wi (stC x line)],Wb (stB x line)])) (mlB (x.1 0) (x.1 1) ((x.1 2)-(x.1 22)) (x.1 3) (x.1 21) line)) (bankN (x.1 0) (x.1 1) ((x.1 2)-(x.1 22)) (x.1 3))) (Wu [Wa [Wi 0,Wi 0,Wi 0],Wb false])):=by kernel_rfl
theorem staS_any (x:CtD)(o:Nat→Option Addr)(q:Nat→Nat)(so:Nat→Option Addr)(sc:Nat→Nat)(uo:Nat→Option Addr)(uc:Nat→Nat)(vo:Nat→Option Addr)(vc:Nat→Nat)(line:Int)(w:World)(hA:∀ c∈ctR 0 x o q so sc uo uc vo vc,c.own=false∧c.sat w)(hc1:cap1Ct x)(hR:rngC (x.i 2))(hq:x.n 8≤q 8∧x.n 13≤q 13∧x.n 15≤q 15):Calls Tryz.prog 10 #[ctV x o q,.int .i64 line] w fun e w'=>e=.returned (.tuple #[.agg #[.int .i64 (stK x line),.int .i64 (stR x line),.int .i64 (stC x line)],.bool (stB x line)])∧Below w.heap.size w w':=by
 refine fnB (tb:=[(6,sCkS x o q so sc uo uc vo vc),(37,sRgOk),(36,sLine),(28,sBtw),(92,sL35)]) ⟨(sCkS_ok x o q so sc uo uc vo vc),sRgOk_S,sLine_S,sBtwS_ok,sL35_ok,trivial⟩ Tryz.func10 (@Eq.mpr _ _ (staS_T x o q so sc uo uc vo vc line) ?_) (HS.seenAll (fun _=>False) _ hA) (fun v ch' w' hv hs=>⟨by rw [hv],hs.below⟩)
 dsimp -zeta -proj -iota -eta -failIfUnchanged (etaStruct:=.none) only
 clear hA
 have hcc:ctC x q:=⟨hc1,hR,hq⟩
 have hn:=hc1.1
 have l8:lenC (x.n 8):=by have h:x.n 8≤2097152:=(capOf1Ct hc1).1.2.2.2.2.2.2.2.1;show _≤_;omega
 obtain ⟨q8,q13,q15⟩:=hq
 have e8:leC (x.n 8) (x.n 8):=Nat.le_refl _
 clear hn
 rcases bcase (ctB x) with hct | hct
 ·have hok:stB x line=false:=by simp only [stB,hct,Bool.false_and]
  repeat' (first
   | with_reducible exact rfl
   | exact True.intro
   | with_reducible assumption
   | (show @Eq (List _) _ _;exact rfl)
   | (with_reducible exact hR)
   | (show rng _;exact ⟨by omega,by omega⟩)
   | ((with_reducible show @Eq (List Ch) _ _) <;> exact rfl)
   | exact hcc
   | (simp only [stK,stR,stC,hok] <;> exact rfl)
   | refine And.intro ?_ ?_
   | apply Exists.intro
   | (refine fun (h:@Eq Bool _ _)=>?_;exfalso;first | (simp [hct] at h;done) | (simp [hct] at h;omega))
   | intro _
   | omega
   | exact rfl)
 ·have hcc2:ctC2 x q:=⟨hc1,hR,⟨q8,q13,q15⟩,hct⟩
  have hst:stB x line=btw line 0 (lineN (x.i 0) (x.i 1) (x.i 2-x.i 43) (x.i 3)-1):=by simp only [stB,hct,Bool.true_and]
  have hlb:=line_bd (ifZ (sprB (x.n 8) (x.g 8 0) (x.i 43) (x.i 0) (x.i 1) (x.i 2) (x.i 3)) (x.i 0)) (ifZ (sprB (x.n 8) (x.g 8 0) (x.i 43) (x.i 0) (x.i 1) (x.i 2) (x.i 3)) (x.i 1)) (ifZ (sprB (x.n 8) (x.g 8 0) (x.i 43) (x.i 0) (x.i 1) (x.i 2) (x.i 3)) (x.i 2-x.i 43)) (ifZ (sprB (x.n 8) (x.g 8 0) (x.i 43) (x.i 0) (x.i 1) (x.i 2) (x.i 3)) (x.i 3))
  obtain ⟨hlb1,hlb2⟩:=hlb
  obtain ⟨hspr,h22,hod⟩:=ct_facts hct
  obtain ⟨hg2,hb2,⟨hb3,hb4⟩,⟨hM1,hM2⟩,⟨hK1,hK2⟩,hnl,⟨hR1,hR2⟩,⟨hs1,hs2⟩⟩:=st_facts hct
  have hml:mlB (x.i 0) (x.i 1) (x.i 2-x.i 43) (x.i 3) (x.i 21) line=btw line 0 (lineN (x.i 0) (x.i 1) (x.i 2-x.i 43) (x.i 3)-1):=by simp only [mlB,hg2,hod,Bool.true_and]
  have hod2:=hod
  have hl3:lineN (ifZ true (x.i 0)) (ifZ true (x.i 1)) (ifZ true (x.i 2-x.i 43)) (ifZ true (x.i 3))=lineN (x.i 0) (x.i 1) (x.i 2-x.i 43) (x.i 3):=rfl
  have hml3:mlB (x.i 0) (x.i 1) (x.i 2-x.i 22) (x.i 3) (x.i 21) line=btw line 0 (lineN (x.i 0) (x.i 1) (x.i 2-x.i 43) (x.i 3)-1):=by rw [← h22];exact hml
  rcases bcase (btw line 0 (lineN (x.i 0) (x.i 1) (x.i 2-x.i 43) (x.i 3)-1)) with hl | hl
  ·have hok:stB x line=false:=by rw [hst,hl]
   repeat' (first
    | with_reducible exact rfl
    | exact True.intro
    | with_reducible assumption
    | (show @Eq (List _) _ _;exact rfl)
    | (with_reducible exact hR)
    | (show rng _;exact ⟨by omega,by omega⟩)
    | ((with_reducible show @Eq (List Ch) _ _) <;> exact rfl)
    | exact hcc
    | (simp only [stK,stR,stC,hok] <;> exact rfl)
    | refine And.intro ?_ ?_
    | apply Exists.intro
    | (refine fun (h:@Eq Bool _ _)=>?_;exfalso;first | (simp [hct,hspr,hl3,hl] at h;done) | (simp [hct,hspr,hl3,hl] at h;omega))
    | intro _
    | omega
    | exact rfl)
  ·obtain ⟨⟨i1,i2⟩,i3,i4⟩:=st_in hct hl
   have hok:stB x line=true:=by rw [hst,hl]
   have m1:(mlK (x.i 21) (x.b 0) (bankN (x.i 0) (x.i 1) (x.i 2-x.i 43) (x.i 3)) (x.i 2-x.i 43) (x.i 3) line)*(x.i 2-x.i 43)+(x.i 2-x.i 43)≤bankN (x.i 0) (x.i 1) (x.i 2) (x.i 3)*(x.i 2-x.i 43):=by
    have:=Int.mul_le_mul_of_nonneg_right (c:=x.i 2-x.i 43) (show mlK (x.i 21) (x.b 0) (bankN (x.i 0) (x.i 1) (x.i 2-x.i 43) (x.i 3)) (x.i 2-x.i 43) (x.i 3) line+1≤bankN (x.i 0) (x.i 1) (x.i 2) (x.i 3) by omega) (by omega)
    rw [Int.add_mul,Int.one_mul] at this
    exact this
   have m2:0≤(mlK (x.i 21) (x.b 0) (bankN (x.i 0) (x.i 1) (x.i 2-x.i 43) (x.i 3)) (x.i 2-x.i 43) (x.i 3) line)*(x.i 2-x.i 43):=Int.mul_nonneg i1 (by omega)
   have m3:bankN (x.i 0) (x.i 1) (x.i 2) (x.i 3)*(x.i 2-x.i 43)≤8*16:=Int.mul_le_mul hb4 hM2 (by omega) (by omega)
   rw [h22] at i1 i2 i3 i4 m1 m2 m3 hnl hM1 hM2
   have em:mlB (x.i 0) (x.i 1) (x.i 2-x.i 22) (x.i 3) (x.i 21) line=true:=by rw [hml3,hl]
   have eB:ifZ (mlB (x.i 0) (x.i 1) (x.i 2-x.i 22) (x.i 3) (x.i 21) line) (mlK (x.i 21) (x.b 0) (bankN (x.i 0) (x.i 1) (x.i 2-x.i 22) (x.i 3)) (x.i 2-x.i 22) (x.i 3) line)=mlK (x.i 21) (x.b 0) (bankN (x.i 0) (x.i 1) (x.i 2-x.i 22) (x.i 3)) (x.i 2-x.i 22) (x.i 3) line:=by rw [em];rfl
   have eR:ifZ (mlB (x.i 0) (x.i 1) (x.i 2-x.i 22) (x.i 3) (x.i 21) line) (mlR (x.i 21) (bankN (x.i 0) (x.i 1) (x.i 2-x.i 22) (x.i 3)) (x.i 2-x.i 22) (x.i 3) line)=mlR (x.i 21) (bankN (x.i 0) (x.i 1) (x.i 2-x.i 22) (x.i 3)) (x.i 2-x.i 22) (x.i 3) line:=by rw [em];rfl
   have eC:ifZ (mlB (x.i 0) (x.i 1) (x.i 2-x.i 22) (x.i 3) (x.i 21) line) (mlC (x.i 21) (bankN (x.i 0) (x.i 1) (x.i 2-x.i 22) (x.i 3)) (x.i 3) line)=mlC (x.i 21) (bankN (x.i 0) (x.i 1) (x.i 2-x.i 22) (x.i 3)) (x.i 3) line:=by rw [em];rfl
   rw [← eB] at i1 i2 m1 m2
   rw [← eR] at i3 i4
   repeat' (first
    | with_reducible exact rfl
    | exact True.intro
    | with_reducible assumption
    | (show @Eq (List _) _ _;exact rfl)
    | (with_reducible exact hR)
    | (show rng _;exact ⟨by omega,by omega⟩)
    | ((with_reducible show @Eq (List Ch) _ _) <;> exact rfl)
    | exact hcc
    | (simp only [stK,stR,stC,hok,srV,h22] <;> exact rfl)
    | (show inIdx _ _;exact ⟨by omega,by omega⟩)
    | (simp only [eB,eR,eC,stK,stR,stC,hok,srV,h22] <;> exact rfl)
    | refine And.intro ?_ ?_
    | apply Exists.intro
    | (refine fun (h:@Eq Bool _ _)=>?_;exfalso;first | (simp [hct,hspr,hl3,hml3,hl] at h;done) | (simp [hct,hspr,hl3,hml3,hl] at h;omega))
    | intro _
    | omega
    | exact rfl)
def sStO:Sm:=fun args ch k =>
 match args with
 | [.a (.c (.obj i v)),.a (.c lc)] =>
  match ch[i]?,asI lc with
  | some (.obj _ rs),some line=>∃ x:CtD,(isCtrO v x rs∧cap1Ct x∧rngC (x.i 2))∧k (.tup [.agg [.int (stK x line),.int (stR x line),.int (stC x line)],.c (.bool (stB x line))]) ch []
  | _,_=>False
 | _=>False
theorem sStO_I:SmOK Tryz.prog 11 sStO:=by
 refine smB Tryz.call11 fun args ch k w X h0 hs=>?_
 unfold sStO at h0
 split at h0
 ·rename_i i v lc
  split at h0
  ·rename_i own rs line hi hlc
   obtain ⟨x,⟨hx,hc,hR⟩,h1⟩:=h0
   obtain ⟨o,q,so,sc,uo,uc,vo,vc,rfl,rfl⟩:=hx
   have hsat:∀ r∈flatC (ctO 0 x o q so sc uo uc vo vc),r.sat w:=fun r hr=>(hs.seeObj hi r hr).2
   refine ⟨_,h1,?_⟩
   simp only [List.map_cons,List.map_nil,den_a,den_c,SA.den,den_obj,asI_den hlc]
   exact staI_any x o q so sc uo uc vo vc line w (ct_seenO hsat 0) hc hR (own_caps hsat)
  ·exact h0.elim
 ·exact h0.elim
theorem sStO_S:SmOK Tryz.prog 10 sStO:=by
 refine smB Tryz.call10 fun args ch k w X h0 hs=>?_
 unfold sStO at h0
 split at h0
 ·rename_i i v lc
  split at h0
  ·rename_i own rs line hi hlc
   obtain ⟨x,⟨hx,hc,hR⟩,h1⟩:=h0
   obtain ⟨o,q,so,sc,uo,uc,vo,vc,rfl,rfl⟩:=hx
   have hsat:∀ r∈flatC (ctO 0 x o q so sc uo uc vo vc),r.sat w:=fun r hr=>(hs.seeObj hi r hr).2
   refine ⟨_,h1,?_⟩
   simp only [List.map_cons,List.map_nil,den_a,den_c,SA.den,den_obj,asI_den hlc]
   exact staS_any x o q so sc uo uc vo vc line w (ct_seenO hsat 0) hc hR (own_caps hsat)
  ·exact h0.elim
 ·exact h0.elim
def sEqAd:Sm:=inlM Tryz.prog {tb:=[]} 300 Tryz.f12
theorem sEqAd_ok:SmOK Tryz.prog 12 sEqAd:=inlM_ok mixed (E:={tb:=[]}) trivial Tryz.func12 Tryz.call12 (fun _ _ _=>loopsOK_nil _ _ _)
end Go.Proofs.YtmnccapnjphmfaaGreat
