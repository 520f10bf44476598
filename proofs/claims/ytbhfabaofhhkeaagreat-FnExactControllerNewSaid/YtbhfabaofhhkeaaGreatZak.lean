/-
  FnExactControllerNew: a part of the walk (merged and squeezed by program: SxG1 SxK1).
-/
import Derived.Test.YtbhfabaofhhkeaaGreatZac
namespace Go.Proofs.YtbhfabaofhhkeaaGreat
set_option linter.unusedVariables false
set_option linter.unusedSimpArgs false
open Go.RowKit
set_option maxRecDepth 100000
set_option maxHeartbeats 8000000
theorem mul_bd {x y X Y:Int}(hx:0≤x∧x≤X)(hy:0≤y∧y≤Y):0≤x*y∧x*y≤X*Y :=
 ⟨Int.mul_nonneg hx.1 hy.1,Int.mul_le_mul hx.2 hy.2 hy.1 (by omega)⟩
def geoB (g b r c:Int):Bool:=btw g 1 2&&btw b 1 4&&btw r 2 16&&btw c 1 8
def bankN (g b r c:Int):Int:=if geoB g b r c=true then g*b else 0
def lineN (g b r c:Int):Int:=if geoB g b r c=true then g*b*r*c else 0
def ifZ (b:Bool)(n:Int):Int:=if b=true then n else 0
theorem geo_facts {g b r c:Int}(h:geoB g b r c=true):(1≤g∧g≤2)∧(1≤b∧b≤4)∧(2≤r∧r≤16)∧(1≤c∧c≤8):=by
 simp only [geoB,Bool.and_eq_true,btw,decide_eq_true_eq] at h
 omega
theorem geo_bank {g b r c:Int}(h:geoB g b r c=true):1≤g*b∧g*b≤8:=by
 have hf:=geo_facts h
 have:g=1∨g=2:=by omega
 rcases this with rfl | rfl <;> omega
theorem geo_row {g b r c:Int}(h:geoB g b r c=true):(0≤g*b*r∧g*b*r≤128)∧(0≤g*b*r*c∧g*b*r*c≤1024):=by
 have hf:=geo_facts h
 have hb:=geo_bank h
 have h1:=mul_bd (x:=g*b) (y:=r) (X:=8) (Y:=16) ⟨by omega,by omega⟩ ⟨by omega,by omega⟩
 have h2:=mul_bd (x:=g*b*r) (y:=c) (X:=128) (Y:=8) ⟨by omega,by omega⟩ ⟨by omega,by omega⟩
 omega
theorem line_row {g b r c:Int}(h:geoB g b r c=true):lineN g b r c=bankN g b r c*r*c:=by simp [lineN,bankN,h]
theorem line_not {g b r c:Int}(h:geoB g b r c=false):lineN g b r c=0∧bankN g b r c=0:=by simp [lineN,bankN,h]
theorem geoI_T (gGroups gBanks gRows gCols:Int):(exFn Tryz.prog {tb:=[(106,sBtw)]} 400 Tryz.f102 ([.a (.agg [.int gGroups,.int gBanks,.int gRows,.int gCols])]) ([]) (fun v _=>v.den=.bool (geoB gGroups gBanks gRows gCols)))=(
 ∀ b:Nat,b=b∧((btw gGroups (1:Int) (2:Int))=true→b=b∧((btw gBanks (1:Int) (4:Int))=true→b=b∧((btw gRows (2:Int) (16:Int))=true→b=b∧(Wb (btw gCols (1:Int) (8:Int)))=(Wb (geoB gGroups gBanks gRows gCols)))∧((btw gRows (2:Int) (16:Int))=false→(Wb false)=(Wb (geoB gGroups gBanks gRows gCols))))∧((btw gBanks (1:Int) (4:Int))=false→(Wb false)=(Wb (geoB gGroups gBanks gRows gCols))))∧((btw gGroups (1:Int) (2:Int))=false→(Wb false)=(Wb (geoB gGroups gBanks gRows gCols)))):=by kernel_rfl
theorem geoI_any (gGroups gBanks gRows gCols:Int)(w:World):Calls Tryz.prog 102 #[.agg #[.int .i64 gGroups,.int .i64 gBanks,.int .i64 gRows,.int .i64 gCols]] w fun e w'=>e=.returned (.bool (geoB gGroups gBanks gRows gCols))∧Below w.heap.size w w':=by
 refine fnB (tb:=[(106,sBtw)]) ⟨sBtwI_ok,trivial⟩ Tryz.func102 (@Eq.mpr _ _ (geoI_T gGroups gBanks gRows gCols) ?_) (HS.start w (fun _=>False)) (fun v ch' w' hk hs=>⟨by rw [hk],hs.below⟩)
 repeat' (first | with_reducible exact rfl | exact True.intro | refine And.intro ?_ ?_ | intro _)
 all_goals (simp_all [geoB];done)
theorem geoS_T (gGroups gBanks gRows gCols:Int):(exFn Tryz.prog {tb:=[(97,sBtw)]} 400 Tryz.f93 ([.a (.agg [.int gGroups,.int gBanks,.int gRows,.int gCols])]) ([]) (fun v _=>v.den=.bool (geoB gGroups gBanks gRows gCols)))=(
 ∀ b:Nat,b=b∧((btw gGroups (1:Int) (2:Int))=true→b=b∧((btw gBanks (1:Int) (4:Int))=true→b=b∧((btw gRows (2:Int) (16:Int))=true→b=b∧(Wb (btw gCols (1:Int) (8:Int)))=(Wb (geoB gGroups gBanks gRows gCols)))∧((btw gRows (2:Int) (16:Int))=false→(Wb false)=(Wb (geoB gGroups gBanks gRows gCols))))∧((btw gBanks (1:Int) (4:Int))=false→(Wb false)=(Wb (geoB gGroups gBanks gRows gCols))))∧((btw gGroups (1:Int) (2:Int))=false→(Wb false)=(Wb (geoB gGroups gBanks gRows gCols)))):=by kernel_rfl
theorem geoS_any (gGroups gBanks gRows gCols:Int)(w:World):Calls Tryz.prog 93 #[.agg #[.int .i64 gGroups,.int .i64 gBanks,.int .i64 gRows,.int .i64 gCols]] w fun e w'=>e=.returned (.bool (geoB gGroups gBanks gRows gCols))∧Below w.heap.size w w':=by
 refine fnB (tb:=[(97,sBtw)]) ⟨sBtwS_ok,trivial⟩ Tryz.func93 (@Eq.mpr _ _ (geoS_T gGroups gBanks gRows gCols) ?_) (HS.start w (fun _=>False)) (fun v ch' w' hk hs=>⟨by rw [hk],hs.below⟩)
 repeat' (first | with_reducible exact rfl | exact True.intro | refine And.intro ?_ ?_ | intro _)
 all_goals (simp_all [geoB];done)
def sGeo:Sm:=fun args ch k =>
 match args with
 | [.a (.agg [c0,c1,c2,c3])] =>
  match ints [c0,c1,c2,c3],bools [] with
  | some [gGroups,gBanks,gRows,gCols],some []=>k (.a (.c (.bool (geoB gGroups gBanks gRows gCols)))) ch []
  | _,_=>False
 | _=>False
theorem sGeo_ok {f:FuncId}(hc:∀ args w,(callFunc f args).run Tryz.prog w=.ok (.enter f args) w)(h:∀ (gGroups gBanks gRows gCols:Int) (w:World),Calls Tryz.prog f #[.agg #[.int .i64 gGroups,.int .i64 gBanks,.int .i64 gRows,.int .i64 gCols]] w fun e w'=>e=.returned (.bool (geoB gGroups gBanks gRows gCols))∧Below w.heap.size w w'):SmOK Tryz.prog f sGeo:=by
 refine smB hc fun args ch k w X h0 hs=>?_
 unfold sGeo at h0
 split at h0
 ·split at h0
  ·rename_i gGroups gBanks gRows gCols hi hb
   obtain ⟨e0,hi1⟩:=ints_cons hi
   obtain ⟨e1,hi2⟩:=ints_cons hi1
   obtain ⟨e2,hi3⟩:=ints_cons hi2
   obtain ⟨e3,hi4⟩:=ints_cons hi3
   refine ⟨_,h0,?_⟩
   simp only [List.map_cons,List.map_nil,den_a,den_c,SA.den,e0,e1,e2,e3]
   exact h gGroups gBanks gRows gCols w
  ·exact h0.elim
 ·exact h0.elim
theorem sGeo_I:SmOK Tryz.prog 102 sGeo:=sGeo_ok Tryz.call102 geoI_any
theorem sGeo_S:SmOK Tryz.prog 93 sGeo:=sGeo_ok Tryz.call93 geoS_any
theorem bankI_T (gGroups gBanks gRows gCols:Int):(exFn Tryz.prog {tb:=[(102,sGeo)]} 400 Tryz.f39 ([.a (.agg [.int gGroups,.int gBanks,.int gRows,.int gCols])]) ([]) (fun v _=>v.den=.int .i64 (bankN gGroups gBanks gRows gCols)))=(
 ∀ b:Nat,b=b∧((! (geoB gGroups gBanks gRows gCols))=true→(Wi 0)=(Wi (bankN gGroups gBanks gRows gCols)))∧((! (geoB gGroups gBanks gRows gCols))=false→b=b∧b=b∧rng (gGroups*gBanks)∧(Wi (gGroups*gBanks))=(Wi (bankN gGroups gBanks gRows gCols)))):=by kernel_rfl
theorem bankI_any (gGroups gBanks gRows gCols:Int)(w:World):Calls Tryz.prog 39 #[.agg #[.int .i64 gGroups,.int .i64 gBanks,.int .i64 gRows,.int .i64 gCols]] w fun e w'=>e=.returned (.int .i64 (bankN gGroups gBanks gRows gCols))∧Below w.heap.size w w':=by
 refine fnB (tb:=[(102,sGeo)]) ⟨sGeo_I,trivial⟩ Tryz.func39 (@Eq.mpr _ _ (bankI_T gGroups gBanks gRows gCols) ?_) (HS.start w (fun _=>False)) (fun v ch' w' hk hs=>⟨by rw [hk],hs.below⟩)
 cases hg:geoB gGroups gBanks gRows gCols
 ·repeat' (first | with_reducible exact rfl | exact True.intro | refine And.intro ?_ ?_ | intro _)
  all_goals simp_all [bankN]
 ·have hf:=geo_facts hg
  have hr:=geo_bank hg
  repeat' (first | with_reducible exact rfl | exact True.intro | refine And.intro ?_ ?_ | (intro h;exfalso;simp [hg] at h;done) | intro _ | omega)
  all_goals (simp [bankN,hg])
theorem bankS_T (gGroups gBanks gRows gCols:Int):(exFn Tryz.prog {tb:=[(93,sGeo)]} 400 Tryz.f19 ([.a (.agg [.int gGroups,.int gBanks,.int gRows,.int gCols])]) ([]) (fun v _=>v.den=.int .i64 (bankN gGroups gBanks gRows gCols)))=(
 ∀ b:Nat,b=b∧((! (geoB gGroups gBanks gRows gCols))=true→(Wi 0)=(Wi (bankN gGroups gBanks gRows gCols)))∧((! (geoB gGroups gBanks gRows gCols))=false→b=b∧b=b∧rng (gGroups*gBanks)∧(Wi (gGroups*gBanks))=(Wi (bankN gGroups gBanks gRows gCols)))):=by kernel_rfl
theorem bankS_any (gGroups gBanks gRows gCols:Int)(w:World):Calls Tryz.prog 19 #[.agg #[.int .i64 gGroups,.int .i64 gBanks,.int .i64 gRows,.int .i64 gCols]] w fun e w'=>e=.returned (.int .i64 (bankN gGroups gBanks gRows gCols))∧Below w.heap.size w w':=by
 refine fnB (tb:=[(93,sGeo)]) ⟨sGeo_S,trivial⟩ Tryz.func19 (@Eq.mpr _ _ (bankS_T gGroups gBanks gRows gCols) ?_) (HS.start w (fun _=>False)) (fun v ch' w' hk hs=>⟨by rw [hk],hs.below⟩)
 cases hg:geoB gGroups gBanks gRows gCols
 ·repeat' (first | with_reducible exact rfl | exact True.intro | refine And.intro ?_ ?_ | intro _)
  all_goals simp_all [bankN]
 ·have hf:=geo_facts hg
  have hr:=geo_bank hg
  repeat' (first | with_reducible exact rfl | exact True.intro | refine And.intro ?_ ?_ | (intro h;exfalso;simp [hg] at h;done) | intro _ | omega)
  all_goals (simp [bankN,hg])
def sBank:Sm:=fun args ch k =>
 match args with
 | [.a (.agg [c0,c1,c2,c3])] =>
  match ints [c0,c1,c2,c3],bools [] with
  | some [gGroups,gBanks,gRows,gCols],some []=>k (.a (.c (.int (bankN gGroups gBanks gRows gCols)))) ch []
  | _,_=>False
 | _=>False
theorem sBank_ok {f:FuncId}(hc:∀ args w,(callFunc f args).run Tryz.prog w=.ok (.enter f args) w)(h:∀ (gGroups gBanks gRows gCols:Int) (w:World),Calls Tryz.prog f #[.agg #[.int .i64 gGroups,.int .i64 gBanks,.int .i64 gRows,.int .i64 gCols]] w fun e w'=>e=.returned (.int .i64 (bankN gGroups gBanks gRows gCols))∧Below w.heap.size w w'):SmOK Tryz.prog f sBank:=by
 refine smB hc fun args ch k w X h0 hs=>?_
 unfold sBank at h0
 split at h0
 ·split at h0
  ·rename_i gGroups gBanks gRows gCols hi hb
   obtain ⟨e0,hi1⟩:=ints_cons hi
   obtain ⟨e1,hi2⟩:=ints_cons hi1
   obtain ⟨e2,hi3⟩:=ints_cons hi2
   obtain ⟨e3,hi4⟩:=ints_cons hi3
   refine ⟨_,h0,?_⟩
   simp only [List.map_cons,List.map_nil,den_a,den_c,SA.den,e0,e1,e2,e3]
   exact h gGroups gBanks gRows gCols w
  ·exact h0.elim
 ·exact h0.elim
theorem sBank_I:SmOK Tryz.prog 39 sBank:=sBank_ok Tryz.call39 bankI_any
theorem sBank_S:SmOK Tryz.prog 19 sBank:=sBank_ok Tryz.call19 bankS_any
theorem lineI_T (gGroups gBanks gRows gCols:Int):(exFn Tryz.prog {tb:=[(102,sGeo),(39,sBank)]} 400 Tryz.f103 ([.a (.agg [.int gGroups,.int gBanks,.int gRows,.int gCols])]) ([]) (fun v _=>v.den=.int .i64 (lineN gGroups gBanks gRows gCols)))=(
 ∀ b:Nat,b=b∧b=b∧b=b∧True∧rng ((bankN gGroups gBanks gRows gCols)*gRows)∧rng (((bankN gGroups gBanks gRows gCols)*gRows)*gCols)∧(Wi (((bankN gGroups gBanks gRows gCols)*gRows)*gCols))=(Wi (lineN gGroups gBanks gRows gCols))):=by kernel_rfl
theorem lineI_any (gGroups gBanks gRows gCols:Int)(w:World):Calls Tryz.prog 103 #[.agg #[.int .i64 gGroups,.int .i64 gBanks,.int .i64 gRows,.int .i64 gCols]] w fun e w'=>e=.returned (.int .i64 (lineN gGroups gBanks gRows gCols))∧Below w.heap.size w w':=by
 refine fnB (tb:=[(102,sGeo),(39,sBank)]) ⟨sGeo_I,sBank_I,trivial⟩ Tryz.func103 (@Eq.mpr _ _ (lineI_T gGroups gBanks gRows gCols) ?_) (HS.start w (fun _=>False)) (fun v ch' w' hk hs=>⟨by rw [hk],hs.below⟩)
 cases hg:geoB gGroups gBanks gRows gCols
 ·have hl:=line_not hg
  have hb:=hl.2
  repeat' (first | with_reducible exact rfl | exact True.intro | refine And.intro ?_ ?_ | (intro h;exfalso;simp [hg] at h;done) | intro _ | (rw [hb];simp [imul];done) | (simp [hl.1,hb,imul];done) | omega)
 ·have hf:=geo_facts hg
  have hr:=geo_bank hg
  have hq:=geo_row hg
  have hb:bankN gGroups gBanks gRows gCols=gGroups*gBanks:=by simp [bankN,hg]
  repeat' (first | with_reducible exact rfl | exact True.intro | refine And.intro ?_ ?_ | (intro h;exfalso;simp [hg] at h;done) | intro _ | omega | (rw [hb];omega) | (simp [lineN,hg,hb];done))
theorem lineS_T (gGroups gBanks gRows gCols:Int):(exFn Tryz.prog {tb:=[(93,sGeo),(19,sBank)]} 400 Tryz.f95 ([.a (.agg [.int gGroups,.int gBanks,.int gRows,.int gCols])]) ([]) (fun v _=>v.den=.int .i64 (lineN gGroups gBanks gRows gCols)))=(
 ∀ b:Nat,b=b∧((! (geoB gGroups gBanks gRows gCols))=true→(Wi 0)=(Wi (lineN gGroups gBanks gRows gCols)))∧((! (geoB gGroups gBanks gRows gCols))=false→b=b∧b=b∧b=b∧True∧rng ((bankN gGroups gBanks gRows gCols)*gRows)∧rng (((bankN gGroups gBanks gRows gCols)*gRows)*gCols)∧(Wi (((bankN gGroups gBanks gRows gCols)*gRows)*gCols))=(Wi (lineN gGroups gBanks gRows gCols)))):=by kernel_rfl
theorem lineS_any (gGroups gBanks gRows gCols:Int)(w:World):Calls Tryz.prog 95 #[.agg #[.int .i64 gGroups,.int .i64 gBanks,.int .i64 gRows,.int .i64 gCols]] w fun e w'=>e=.returned (.int .i64 (lineN gGroups gBanks gRows gCols))∧Below w.heap.size w w':=by
 refine fnB (tb:=[(93,sGeo),(19,sBank)]) ⟨sGeo_S,sBank_S,trivial⟩ Tryz.func95 (@Eq.mpr _ _ (lineS_T gGroups gBanks gRows gCols) ?_) (HS.start w (fun _=>False)) (fun v ch' w' hk hs=>⟨by rw [hk],hs.below⟩)
 cases hg:geoB gGroups gBanks gRows gCols
 ·have hl:=line_not hg
  have hb:=hl.2
  repeat' (first | with_reducible exact rfl | exact True.intro | refine And.intro ?_ ?_ | (intro h;exfalso;simp [hg] at h;done) | intro _ | (rw [hb];simp [imul];done) | (simp [hl.1,hb,imul];done) | omega)
 ·have hf:=geo_facts hg
  have hr:=geo_bank hg
  have hq:=geo_row hg
  have hb:bankN gGroups gBanks gRows gCols=gGroups*gBanks:=by simp [bankN,hg]
  repeat' (first | with_reducible exact rfl | exact True.intro | refine And.intro ?_ ?_ | (intro h;exfalso;simp [hg] at h;done) | intro _ | omega | (rw [hb];omega) | (simp [lineN,hg,hb];done))
def sLine:Sm:=fun args ch k =>
 match args with
 | [.a (.agg [c0,c1,c2,c3])] =>
  match ints [c0,c1,c2,c3],bools [] with
  | some [gGroups,gBanks,gRows,gCols],some []=>k (.a (.c (.int (lineN gGroups gBanks gRows gCols)))) ch []
  | _,_=>False
 | _=>False
theorem sLine_ok {f:FuncId}(hc:∀ args w,(callFunc f args).run Tryz.prog w=.ok (.enter f args) w)(h:∀ (gGroups gBanks gRows gCols:Int) (w:World),Calls Tryz.prog f #[.agg #[.int .i64 gGroups,.int .i64 gBanks,.int .i64 gRows,.int .i64 gCols]] w fun e w'=>e=.returned (.int .i64 (lineN gGroups gBanks gRows gCols))∧Below w.heap.size w w'):SmOK Tryz.prog f sLine:=by
 refine smB hc fun args ch k w X h0 hs=>?_
 unfold sLine at h0
 split at h0
 ·split at h0
  ·rename_i gGroups gBanks gRows gCols hi hb
   obtain ⟨e0,hi1⟩:=ints_cons hi
   obtain ⟨e1,hi2⟩:=ints_cons hi1
   obtain ⟨e2,hi3⟩:=ints_cons hi2
   obtain ⟨e3,hi4⟩:=ints_cons hi3
   refine ⟨_,h0,?_⟩
   simp only [List.map_cons,List.map_nil,den_a,den_c,SA.den,e0,e1,e2,e3]
   exact h gGroups gBanks gRows gCols w
  ·exact h0.elim
 ·exact h0.elim
theorem sLine_I:SmOK Tryz.prog 103 sLine:=sLine_ok Tryz.call103 lineI_any
theorem sLine_S:SmOK Tryz.prog 95 sLine:=sLine_ok Tryz.call95 lineS_any
def sIsI:Sm:=inlM Tryz.prog {tb:=[(106,sBtw)]} 300 Tryz.f151
theorem sIsI_ok:SmOK Tryz.prog 151 sIsI:=inlM_ok mixed (E:={tb:=[(106,sBtw)]}) ⟨sBtwI_ok,trivial⟩ Tryz.func151 Tryz.call151 (fun _ _ _=>loopsOK_nil _ _ _)
def symB (n:Nat)(g:Nat→Int)(m:Int):Bool:=allB n (fun j=>btw (g j) 0 15)&&ieq (n:Int) m
def syIH (ao:Option Addr)(n c:Nat)(f:Nat→Int)(m:Int)(i:SC)(g:Nat→Value):List SV:=[.a (.c (.sl 0 ao n c)),.a (.c (.int m)),.a (.c (.val (g 2))),.a (.c (.val (g 3))),.a (.c (.val (g 4))),.a (.c (.val (g 5))),.a (.c (.val (g 6))),.a (.c (.sl 0 ao n c)),.a (.c (.int (n:Int))),.a (.c i),.a (.c (.val (g 10))),.a (.c (.val (g 11))),.a (.c (.val (g 12))),.a (.c (.val (g 13))),.a (.c (.val (g 14))),.a (.c (.val (g 15))),.a (.c (.val (g 16))),.a (.c (.val (g 17))),.a (.c (.val (g 18))),.a (.c (.val (g 19))),.a (.c (.val (g 20)))]
def syIR (ao:Option Addr)(n c:Nat)(f:Nat→Int)(m:Int)(g:Nat→Value):List SV:=[.a (.c (.val (g 0))),.a (.c (.val (g 1))),.a (.c (.val (g 2))),.a (.c (.val (g 3))),.a (.c (.lit false)),.a (.c (.val (g 5))),.a (.c (.val (g 6))),.a (.c (.val (g 7))),.a (.c (.val (g 8))),.a (.c (.val (g 9))),.a (.c (.val (g 10))),.a (.c (.val (g 11))),.a (.c (.val (g 12))),.a (.c (.val (g 13))),.a (.c (.val (g 14))),.a (.c (.val (g 15))),.a (.c (.val (g 16))),.a (.c (.val (g 17))),.a (.c (.val (g 18))),.a (.c (.val (g 19))),.a (.c (.val (g 20)))]
def syIT (ao:Option Addr)(n c:Nat)(f:Nat→Int)(m:Int):List Ch:=[.row ⟨false,ao,0,1,n,0,[fun i=>.int (f i)]⟩]
def syIP (ao:Option Addr)(n c:Nat)(f:Nat→Int)(m:Int)(j:Nat):Bool:=btw (f j) 0 15
def ssyI (ao:Option Addr)(n c:Nat)(f:Nat→Int)(m:Int):LSm:=fun ts ch k =>
 (ts.map SV.den=(syIH ao n c f m (.il 0) (fun d=>(ts.getD d .undef).den)).map SV.den∧selC ch [0]=syIT ao n c f m) ∧
  (∀ g,allB n (syIP ao n c f m)=true→k (.exit 0) (syIH ao n c f m (.int (n:Int)) g) (syIT ao n c f m))∧(∀ g,allB n (syIP ao n c f m)=false→k .ret (syIR ao n c f m g) (syIT ao n c f m))
theorem syIB (ao:Option Addr)(n c:Nat)(f:Nat→Int)(m:Int)(j:Nat)(g:Nat→Value)(NX:List SV→List Ch→Prop)(kx:Exit→List SV→List Ch→Prop):(exCode Tryz.prog { tb:=[(151,sIsI)] } 400 (theLoop Tryz.f145 0) (syIH ao n c f m (.int (j:Int)) g) (syIT ao n c f m) (loopK NX kx))=(
 (fun a:SV=>(fun b:SV=>(fun d:SV=>(fun h:Bool=>(fun k:SV=>(fun l:Bool=>(fun o:SV=>(fun p:List Ch=>(fun q:Bool=>(q=true→ao=ao∧n=n∧(0≤((j:Nat):Int)∧((j:Nat):Int)<((n:Nat):Int))∧ao=ao∧j<n∧(l=true→kx Exit.ret [b,iV m,vV (g 2),vV (g 3),fV,vV (g 5),a,b,d,iV ((j:Nat):Int),tV,rV 0 ao 1 j 0,a,a,o,tV,vV (g 16),vV (g 17),vV (g 18),vV (g 19),vV (g 20)] p)∧(l=false→rng (((j:Nat):Int)+(1:Int))∧NX [b,iV m,vV (g 2),vV (g 3),vV (g 4),vV (g 5),a,b,d,k,tV,rV 0 ao 1 j 0,a,a,o,fV,k,vV (g 17),vV (g 18),vV (g 19),vV (g 20)] p))∧(q=false→kx (Exit.exit 0) [b,iV m,vV (g 2),vV (g 3),vV (g 4),vV (g 5),vV (g 6),b,d,iV ((j:Nat):Int),fV,vV (g 11),vV (g 12),vV (g 13),vV (g 14),vV (g 15),vV (g 16),vV (g 17),vV (g 18),vV (g 19),vV (g 20)] p)) (decide (((j:Nat):Int)<((n:Nat):Int)))) [Hr false ao 0 1 n 0 [fun p=>Ci (f p)]]) (bV h)) (! h)) (iV (((j:Nat):Int)+(1:Int)))) (btw (f j) (0:Int) (15:Int))) (iV ((n:Nat):Int))) (sV 0 ao n c)) (iV (f j))):=by kernel_rfl
theorem syI_ok (ao:Option Addr)(n c:Nat)(f:Nat→Int)(m:Int)(hn:n≤9223372036854775807)(X:Cx):LoopOK Tryz.prog X (theLoop Tryz.f145 0) (ssyI ao n c f m):=by
 intro ts ch k a w hS hT hd hs
 obtain ⟨⟨h1,hch⟩,hk,hr⟩:=hS
 refine loop_ok mixed (E:={ tb:=[(151,sIsI)] }) ⟨sIsI_ok,trivial⟩ (loopsOK_nil _ _ _) 400 n (fun j ts ch=>∃ g,allB j (syIP ao n c f m)=true∧ts=syIH ao n c f m (.int (j:Int)) g∧ch=syIT ao n c f m) ?_ ?_ hT hd hs
 ·rintro j _ _ ⟨g,hall,rfl,rfl⟩ hj
  refine (@Eq.mpr _ _ (syIB ao n c f m j g _ _) ?_)
  dsimp -zeta -proj -iota -eta -failIfUnchanged (etaStruct:=.none) only
  by_cases hlt:j<n
  ·have hjn:(0:Int)≤(j:Int)∧(j:Int)<(n:Int):=⟨by omega,by omega⟩
   cases hp:syIP ao n c f m j
   all_goals simp only [syIP] at hp
   all_goals
    repeat' (first
     | with_reducible exact rfl
     | exact True.intro
     | with_reducible assumption
     | (refine ⟨hlt,?_⟩;show Next _ _ _ _;refine Next.mk (fun g=>syIH ao n c f m (.int ((j+1:Nat):Int)) g) _ ⟨_,allB_succ hall (by simp only [syIP];exact hp),rfl,rfl⟩ rfl fun w hw=>hw.sel [0] (by simp))
     | (refine Next.mk (fun g=>syIR ao n c f m g) _ (hr _ (allB_no hlt (by simp only [syIP];exact hp))) rfl fun w hw=>hw.sel [0] (by simp))
     | refine And.intro ?_ ?_
     | (intro h;exfalso;simp at h;omega)
     | (intro h;exfalso;simp [h] at hp;done)
     | (intro h;exfalso;rw [hp] at h;simp at h;done)
     | intro _
     | omega)
    all_goals (exfalso;simp_all;done)
  ·have hjn:n=j:=by omega
   subst hjn
   repeat' (first
    | with_reducible exact rfl
    | exact True.intro
    | (refine Next.mk (fun g=>syIH ao n c f m (.int (n:Int)) g) _ (hk _ hall) rfl fun w hw=>hw.sel [0] (by simp))
    | refine And.intro ?_ ?_
    | (intro h;exfalso;simp at h;done)
    | (intro h;exfalso;simp at h;omega)
    | intro _)
 ·refine Next.mk (fun g=>syIH ao n c f m (.int ((0:Nat):Int)) g) _ ⟨_,allB_zero _,rfl,rfl⟩ h1 fun w hw=>?_
  rw [← hch]
  exact hw.sel [0] (by simp)
theorem symI_T (ao:Option Addr)(n c:Nat)(f:Nat→Int)(m:Int):(exFn Tryz.prog { tb:=[(151,sIsI)],L:=[(2,ssyI ao n c f m)] } 400 Tryz.f145 ([.a (.c (.sl 0 ao n c)),.a (.c (.int m))]) ([.row ⟨false,ao,0,1,n,0,[fun i=>.int (f i)]⟩]) (fun v _=>v.den=.bool (symB n f m)))=(
 ([Ws ao n c,Wi m,Wu [],Wu [],Wb false,Wu [],Wu [],Ws ao n c,Wi ((n:Nat):Int),Wi 0,Wu [],Wu [],Wu [],Wu [],Wu [],Wu [],Wu [],Wu [],Wu [],Wu [],Wu []]=[Ws ao n c,Wi m,Wu [],Wu [],Wb false,Wu [],Wu [],Ws ao n c,Wi ((n:Nat):Int),Wi 0,Wu [],Wu [],Wu [],Wu [],Wu [],Wu [],Wu [],Wu [],Wu [],Wu [],Wu []]∧[Hr false ao 0 1 n 0 [fun b=>Ci (f b)]]=[Hr false ao 0 1 n 0 [fun b=>Ci (f b)]])∧(∀ b:Nat→Value,(allB n (syIP ao n c f m))=true→(Wb (((n:Nat):Int) == m))=(Wb (symB n f m)))∧∀ b:Nat→Value,(allB n (syIP ao n c f m))=false→(Wb false)=(Wb (symB n f m))):=by kernel_rfl
theorem symI_any (ao:Option Addr)(n c:Nat)(f:Nat→Int)(m:Int)(w:World)(h:Row.sat w ⟨false,ao,0,1,n,0,[fun i=>.int (f i)]⟩)(hn:n≤9223372036854775807):Calls Tryz.prog 145 #[.slice ao n c,.int .i64 m] w fun e w'=>e=.returned (.bool (symB n f m))∧Below w.heap.size w w':=by
 refine fn_ok mixed (E:={ tb:=[(151,sIsI)],L:=[(2,ssyI ao n c f m)] }) ⟨sIsI_ok,trivial⟩ Tryz.func145 (one_loop (by kernel_rfl) (by kernel_rfl) (syI_ok ao n c f m hn _)) (@Eq.mpr _ _ (symI_T ao n c f m) ?_) (HS.rows (fun _=>False) [⟨false,ao,0,1,n,0,[fun i=>.int (f i)]⟩] (by simpa using h)) (fun v ch' w' hv hs=>⟨by rw [hv],hs.below⟩)
 clear h
 have e:symB n f m=(allB n (syIP ao n c f m)&&ieq (n:Int) m):=rfl
 rw [e]
 repeat' (first
  | with_reducible exact rfl
  | exact True.intro
  | with_reducible assumption
  | refine And.intro ?_ ?_
  | (intro g h;rw [h])
  | intro _)
 all_goals simp
def sSym:Sm:=fun args ch kk =>
 match args with
 | [.a (.c c),.a (.c mc)] =>
  match asI mc with
  | some m=>rdn ch c fun n g=>lenC n∧kk (.a (.c (.bool (symB n g m)))) ch []
  | none=>False
 | _=>False
theorem sSym_I:SmOK Tryz.prog 145 sSym:=by
 refine smB Tryz.call145 fun args ch kk w X h0 hs=>?_
 unfold sSym at h0
 split at h0
 ·split at h0
  ·rename_i m hm
   obtain ⟨ao,n,c',g,e,hr,hn,h1⟩:=rdn_ok h0 hs
   refine ⟨_,h1,?_⟩
   simp only [List.map_cons,List.map_nil,den_a,den_c,e,asI_den hm]
   exact symI_any ao n c' g m w hr hn
  ·exact h0.elim
 ·exact h0.elim
end Go.Proofs.YtbhfabaofhhkeaaGreat
