/-
  FnExactStoredAddr: a part of the walk (merged and squeezed by program: SxG1 SxG2).
-/
import Derived.Test.YtmnccapnjphmfaaGreatZbac
namespace Go.Proofs.YtmnccapnjphmfaaGreat
set_option linter.unusedVariables false
set_option linter.unusedSimpArgs false
open Go.RowKit
set_option maxRecDepth 100000
set_option maxHeartbeats 8000000
theorem mul_bd {x y X Y:Int}(hx:0≤x∧x≤X)(hy:0≤y∧y≤Y):0≤x*y∧x*y≤X*Y :=
 ⟨Int.mul_nonneg hx.1 hy.1,Int.mul_le_mul hx.2 hy.2 hy.1 (by omega)⟩
def geoB (g b r c:Int):Bool:=btw g 1 2&&btw b 1 4&&btw r 2 16&&btw c 1 8
def bankN (g b r c:Int):Int:=if geoB g b r c=true then g*b else 0
def lineN (g b r c:Int):Int:=if geoB g b r c=true then g*b*r*c else 0
def adOk (g b r c x y z:Int):Bool:=geoB g b r c&&btw x 0 (bankN g b r c-1)&&btw y 0 (r-1)&&btw z 0 (c-1)
def ifZ (b:Bool)(n:Int):Int:=if b=true then n else 0
theorem geo_facts {g b r c:Int}(h:geoB g b r c=true):(1≤g∧g≤2)∧(1≤b∧b≤4)∧(2≤r∧r≤16)∧(1≤c∧c≤8):=by
 simp only [geoB,Bool.and_eq_true,btw,decide_eq_true_eq] at h
 omega
theorem geo_bank {g b r c:Int}(h:geoB g b r c=true):1≤g*b∧g*b≤8:=by
 have hf:=geo_facts h
 have:g=1∨g=2:=by omega
 rcases this with rfl | rfl <;> omega
theorem geo_row {g b r c:Int}(h:geoB g b r c=true):(0≤g*b*r∧g*b*r≤128)∧(0≤g*b*r*c∧g*b*r*c≤1024):=by
 have hf:=geo_facts h
 have hb:=geo_bank h
 have h1:=mul_bd (x:=g*b) (y:=r) (X:=8) (Y:=16) ⟨by omega,by omega⟩ ⟨by omega,by omega⟩
 have h2:=mul_bd (x:=g*b*r) (y:=c) (X:=128) (Y:=8) ⟨by omega,by omega⟩ ⟨by omega,by omega⟩
 omega
theorem line_row {g b r c:Int}(h:geoB g b r c=true):lineN g b r c=bankN g b r c*r*c:=by simp [lineN,bankN,h]
theorem line_not {g b r c:Int}(h:geoB g b r c=false):lineN g b r c=0∧bankN g b r c=0:=by simp [lineN,bankN,h]
theorem geoI_T (gGroups gBanks gRows gCols:Int):(exFn Tryz.prog {tb:=[(61,sBtw)]} 400 Tryz.f132 ([.a (.agg [.int gGroups,.int gBanks,.int gRows,.int gCols])]) ([]) (fun v _=>v.den=.bool (geoB gGroups gBanks gRows gCols)))=(
 ∀ b:Nat,b=b∧((btw gGroups (1:Int) (2:Int))=true→b=b∧((btw gBanks (1:Int) (4:Int))=true→b=b∧((btw gRows (2:Int) (16:Int))=true→b=b∧(Wb (btw gCols (1:Int) (8:Int)))=(Wb (geoB gGroups gBanks gRows gCols)))∧((btw gRows (2:Int) (16:Int))=false→(Wb false)=(Wb (geoB gGroups gBanks gRows gCols))))∧((btw gBanks (1:Int) (4:Int))=false→(Wb false)=(Wb (geoB gGroups gBanks gRows gCols))))∧((btw gGroups (1:Int) (2:Int))=false→(Wb false)=(Wb (geoB gGroups gBanks gRows gCols)))):=by kernel_rfl
theorem geoI_any (gGroups gBanks gRows gCols:Int)(w:World):Calls Tryz.prog 132 #[.agg #[.int .i64 gGroups,.int .i64 gBanks,.int .i64 gRows,.int .i64 gCols]] w fun e w'=>e=.returned (.bool (geoB gGroups gBanks gRows gCols))∧Below w.heap.size w w':=by
 refine fnB (tb:=[(61,sBtw)]) ⟨sBtwI_ok,trivial⟩ Tryz.func132 (@Eq.mpr _ _ (geoI_T gGroups gBanks gRows gCols) ?_) (HS.start w (fun _=>False)) (fun v ch' w' hk hs=>⟨by rw [hk],hs.below⟩)
 repeat' (first | with_reducible exact rfl | exact True.intro | refine And.intro ?_ ?_ | intro _)
 all_goals (simp_all [geoB];done)
theorem geoS_T (gGroups gBanks gRows gCols:Int):(exFn Tryz.prog {tb:=[(28,sBtw)]} 400 Tryz.f101 ([.a (.agg [.int gGroups,.int gBanks,.int gRows,.int gCols])]) ([]) (fun v _=>v.den=.bool (geoB gGroups gBanks gRows gCols)))=(
 ∀ b:Nat,b=b∧((btw gGroups (1:Int) (2:Int))=true→b=b∧((btw gBanks (1:Int) (4:Int))=true→b=b∧((btw gRows (2:Int) (16:Int))=true→b=b∧(Wb (btw gCols (1:Int) (8:Int)))=(Wb (geoB gGroups gBanks gRows gCols)))∧((btw gRows (2:Int) (16:Int))=false→(Wb false)=(Wb (geoB gGroups gBanks gRows gCols))))∧((btw gBanks (1:Int) (4:Int))=false→(Wb false)=(Wb (geoB gGroups gBanks gRows gCols))))∧((btw gGroups (1:Int) (2:Int))=false→(Wb false)=(Wb (geoB gGroups gBanks gRows gCols)))):=by kernel_rfl
theorem geoS_any (gGroups gBanks gRows gCols:Int)(w:World):Calls Tryz.prog 101 #[.agg #[.int .i64 gGroups,.int .i64 gBanks,.int .i64 gRows,.int .i64 gCols]] w fun e w'=>e=.returned (.bool (geoB gGroups gBanks gRows gCols))∧Below w.heap.size w w':=by
 refine fnB (tb:=[(28,sBtw)]) ⟨sBtwS_ok,trivial⟩ Tryz.func101 (@Eq.mpr _ _ (geoS_T gGroups gBanks gRows gCols) ?_) (HS.start w (fun _=>False)) (fun v ch' w' hk hs=>⟨by rw [hk],hs.below⟩)
 repeat' (first | with_reducible exact rfl | exact True.intro | refine And.intro ?_ ?_ | intro _)
 all_goals (simp_all [geoB];done)
def sGeo:Sm:=fun args ch k =>
 match args with
 | [.a (.agg [c0,c1,c2,c3])] =>
  match ints [c0,c1,c2,c3],bools [] with
  | some [gGroups,gBanks,gRows,gCols],some []=>k (.a (.c (.bool (geoB gGroups gBanks gRows gCols)))) ch []
  | _,_=>False
 | _=>False
theorem sGeo_ok {f:FuncId}(hc:∀ args w,(callFunc f args).run Tryz.prog w=.ok (.enter f args) w)(h:∀ (gGroups gBanks gRows gCols:Int) (w:World),Calls Tryz.prog f #[.agg #[.int .i64 gGroups,.int .i64 gBanks,.int .i64 gRows,.int .i64 gCols]] w fun e w'=>e=.returned (.bool (geoB gGroups gBanks gRows gCols))∧Below w.heap.size w w'):SmOK Tryz.prog f sGeo:=by
 refine smB hc fun args ch k w X h0 hs=>?_
 unfold sGeo at h0
 split at h0
 ·split at h0
  ·rename_i gGroups gBanks gRows gCols hi hb
   obtain ⟨e0,hi1⟩:=ints_cons hi
   obtain ⟨e1,hi2⟩:=ints_cons hi1
   obtain ⟨e2,hi3⟩:=ints_cons hi2
   obtain ⟨e3,hi4⟩:=ints_cons hi3
   refine ⟨_,h0,?_⟩
   simp only [List.map_cons,List.map_nil,den_a,den_c,SA.den,e0,e1,e2,e3]
   exact h gGroups gBanks gRows gCols w
  ·exact h0.elim
 ·exact h0.elim
theorem sGeo_I:SmOK Tryz.prog 132 sGeo:=sGeo_ok Tryz.call132 geoI_any
theorem sGeo_S:SmOK Tryz.prog 101 sGeo:=sGeo_ok Tryz.call101 geoS_any
theorem bankI_T (gGroups gBanks gRows gCols:Int):(exFn Tryz.prog {tb:=[(132,sGeo)]} 400 Tryz.f133 ([.a (.agg [.int gGroups,.int gBanks,.int gRows,.int gCols])]) ([]) (fun v _=>v.den=.int .i64 (bankN gGroups gBanks gRows gCols)))=(
 ∀ b:Nat,b=b∧((! (geoB gGroups gBanks gRows gCols))=true→(Wi 0)=(Wi (bankN gGroups gBanks gRows gCols)))∧((! (geoB gGroups gBanks gRows gCols))=false→b=b∧b=b∧rng (gGroups*gBanks)∧(Wi (gGroups*gBanks))=(Wi (bankN gGroups gBanks gRows gCols)))):=by kernel_rfl
theorem bankI_any (gGroups gBanks gRows gCols:Int)(w:World):Calls Tryz.prog 133 #[.agg #[.int .i64 gGroups,.int .i64 gBanks,.int .i64 gRows,.int .i64 gCols]] w fun e w'=>e=.returned (.int .i64 (bankN gGroups gBanks gRows gCols))∧Below w.heap.size w w':=by
 refine fnB (tb:=[(132,sGeo)]) ⟨sGeo_I,trivial⟩ Tryz.func133 (@Eq.mpr _ _ (bankI_T gGroups gBanks gRows gCols) ?_) (HS.start w (fun _=>False)) (fun v ch' w' hk hs=>⟨by rw [hk],hs.below⟩)
 cases hg:geoB gGroups gBanks gRows gCols
 ·repeat' (first | with_reducible exact rfl | exact True.intro | refine And.intro ?_ ?_ | intro _)
  all_goals simp_all [bankN]
 ·have hf:=geo_facts hg
  have hr:=geo_bank hg
  repeat' (first | with_reducible exact rfl | exact True.intro | refine And.intro ?_ ?_ | (intro h;exfalso;simp [hg] at h;done) | intro _ | omega)
  all_goals (simp [bankN,hg])
theorem bankS_T (gGroups gBanks gRows gCols:Int):(exFn Tryz.prog {tb:=[(101,sGeo)]} 400 Tryz.f102 ([.a (.agg [.int gGroups,.int gBanks,.int gRows,.int gCols])]) ([]) (fun v _=>v.den=.int .i64 (bankN gGroups gBanks gRows gCols)))=(
 ∀ b:Nat,b=b∧((! (geoB gGroups gBanks gRows gCols))=true→(Wi 0)=(Wi (bankN gGroups gBanks gRows gCols)))∧((! (geoB gGroups gBanks gRows gCols))=false→b=b∧b=b∧rng (gGroups*gBanks)∧(Wi (gGroups*gBanks))=(Wi (bankN gGroups gBanks gRows gCols)))):=by kernel_rfl
theorem bankS_any (gGroups gBanks gRows gCols:Int)(w:World):Calls Tryz.prog 102 #[.agg #[.int .i64 gGroups,.int .i64 gBanks,.int .i64 gRows,.int .i64 gCols]] w fun e w'=>e=.returned (.int .i64 (bankN gGroups gBanks gRows gCols))∧Below w.heap.size w w':=by
 refine fnB (tb:=[(101,sGeo)]) ⟨sGeo_S,trivial⟩ Tryz.func102 (@Eq.mpr _ _ (bankS_T gGroups gBanks gRows gCols) ?_) (HS.start w (fun _=>False)) (fun v ch' w' hk hs=>⟨by rw [hk],hs.below⟩)
 cases hg:geoB gGroups gBanks gRows gCols
 ·repeat' (first | with_reducible exact rfl | exact True.intro | refine And.intro ?_ ?_ | intro _)
  all_goals simp_all [bankN]
 ·have hf:=geo_facts hg
  have hr:=geo_bank hg
  repeat' (first | with_reducible exact rfl | exact True.intro | refine And.intro ?_ ?_ | (intro h;exfalso;simp [hg] at h;done) | intro _ | omega)
  all_goals (simp [bankN,hg])
def sBank:Sm:=fun args ch k =>
 match args with
 | [.a (.agg [c0,c1,c2,c3])] =>
  match ints [c0,c1,c2,c3],bools [] with
  | some [gGroups,gBanks,gRows,gCols],some []=>k (.a (.c (.int (bankN gGroups gBanks gRows gCols)))) ch []
  | _,_=>False
 | _=>False
theorem sBank_ok {f:FuncId}(hc:∀ args w,(callFunc f args).run Tryz.prog w=.ok (.enter f args) w)(h:∀ (gGroups gBanks gRows gCols:Int) (w:World),Calls Tryz.prog f #[.agg #[.int .i64 gGroups,.int .i64 gBanks,.int .i64 gRows,.int .i64 gCols]] w fun e w'=>e=.returned (.int .i64 (bankN gGroups gBanks gRows gCols))∧Below w.heap.size w w'):SmOK Tryz.prog f sBank:=by
 refine smB hc fun args ch k w X h0 hs=>?_
 unfold sBank at h0
 split at h0
 ·split at h0
  ·rename_i gGroups gBanks gRows gCols hi hb
   obtain ⟨e0,hi1⟩:=ints_cons hi
   obtain ⟨e1,hi2⟩:=ints_cons hi1
   obtain ⟨e2,hi3⟩:=ints_cons hi2
   obtain ⟨e3,hi4⟩:=ints_cons hi3
   refine ⟨_,h0,?_⟩
   simp only [List.map_cons,List.map_nil,den_a,den_c,SA.den,e0,e1,e2,e3]
   exact h gGroups gBanks gRows gCols w
  ·exact h0.elim
 ·exact h0.elim
theorem sBank_I:SmOK Tryz.prog 133 sBank:=sBank_ok Tryz.call133 bankI_any
theorem sBank_S:SmOK Tryz.prog 102 sBank:=sBank_ok Tryz.call102 bankS_any
theorem lineI_T (gGroups gBanks gRows gCols:Int):(exFn Tryz.prog {tb:=[(132,sGeo),(133,sBank)]} 400 Tryz.f68 ([.a (.agg [.int gGroups,.int gBanks,.int gRows,.int gCols])]) ([]) (fun v _=>v.den=.int .i64 (lineN gGroups gBanks gRows gCols)))=(
 ∀ b:Nat,b=b∧b=b∧b=b∧True∧rng ((bankN gGroups gBanks gRows gCols)*gRows)∧rng (((bankN gGroups gBanks gRows gCols)*gRows)*gCols)∧(Wi (((bankN gGroups gBanks gRows gCols)*gRows)*gCols))=(Wi (lineN gGroups gBanks gRows gCols))):=by kernel_rfl
theorem lineI_any (gGroups gBanks gRows gCols:Int)(w:World):Calls Tryz.prog 68 #[.agg #[.int .i64 gGroups,.int .i64 gBanks,.int .i64 gRows,.int .i64 gCols]] w fun e w'=>e=.returned (.int .i64 (lineN gGroups gBanks gRows gCols))∧Below w.heap.size w w':=by
 refine fnB (tb:=[(132,sGeo),(133,sBank)]) ⟨sGeo_I,sBank_I,trivial⟩ Tryz.func68 (@Eq.mpr _ _ (lineI_T gGroups gBanks gRows gCols) ?_) (HS.start w (fun _=>False)) (fun v ch' w' hk hs=>⟨by rw [hk],hs.below⟩)
 cases hg:geoB gGroups gBanks gRows gCols
 ·have hl:=line_not hg
  have hb:=hl.2
  repeat' (first | with_reducible exact rfl | exact True.intro | refine And.intro ?_ ?_ | (intro h;exfalso;simp [hg] at h;done) | intro _ | (rw [hb];simp [imul];done) | (simp [hl.1,hb,imul];done) | omega)
 ·have hf:=geo_facts hg
  have hr:=geo_bank hg
  have hq:=geo_row hg
  have hb:bankN gGroups gBanks gRows gCols=gGroups*gBanks:=by simp [bankN,hg]
  repeat' (first | with_reducible exact rfl | exact True.intro | refine And.intro ?_ ?_ | (intro h;exfalso;simp [hg] at h;done) | intro _ | omega | (rw [hb];omega) | (simp [lineN,hg,hb];done))
theorem lineS_T (gGroups gBanks gRows gCols:Int):(exFn Tryz.prog {tb:=[(101,sGeo),(102,sBank)]} 400 Tryz.f36 ([.a (.agg [.int gGroups,.int gBanks,.int gRows,.int gCols])]) ([]) (fun v _=>v.den=.int .i64 (lineN gGroups gBanks gRows gCols)))=(
 ∀ b:Nat,b=b∧((! (geoB gGroups gBanks gRows gCols))=true→(Wi 0)=(Wi (lineN gGroups gBanks gRows gCols)))∧((! (geoB gGroups gBanks gRows gCols))=false→b=b∧b=b∧b=b∧True∧rng ((bankN gGroups gBanks gRows gCols)*gRows)∧rng (((bankN gGroups gBanks gRows gCols)*gRows)*gCols)∧(Wi (((bankN gGroups gBanks gRows gCols)*gRows)*gCols))=(Wi (lineN gGroups gBanks gRows gCols)))):=by kernel_rfl
theorem lineS_any (gGroups gBanks gRows gCols:Int)(w:World):Calls Tryz.prog 36 #[.agg #[.int .i64 gGroups,.int .i64 gBanks,.int .i64 gRows,.int .i64 gCols]] w fun e w'=>e=.returned (.int .i64 (lineN gGroups gBanks gRows gCols))∧Below w.heap.size w w':=by
 refine fnB (tb:=[(101,sGeo),(102,sBank)]) ⟨sGeo_S,sBank_S,trivial⟩ Tryz.func36 (@Eq.mpr _ _ (lineS_T gGroups gBanks gRows gCols) ?_) (HS.start w (fun _=>False)) (fun v ch' w' hk hs=>⟨by rw [hk],hs.below⟩)
 cases hg:geoB gGroups gBanks gRows gCols
 ·have hl:=line_not hg
  have hb:=hl.2
  repeat' (first | with_reducible exact rfl | exact True.intro | refine And.intro ?_ ?_ | (intro h;exfalso;simp [hg] at h;done) | intro _ | (rw [hb];simp [imul];done) | (simp [hl.1,hb,imul];done) | omega)
 ·have hf:=geo_facts hg
  have hr:=geo_bank hg
  have hq:=geo_row hg
  have hb:bankN gGroups gBanks gRows gCols=gGroups*gBanks:=by simp [bankN,hg]
  repeat' (first | with_reducible exact rfl | exact True.intro | refine And.intro ?_ ?_ | (intro h;exfalso;simp [hg] at h;done) | intro _ | omega | (rw [hb];omega) | (simp [lineN,hg,hb];done))
def sLine:Sm:=fun args ch k =>
 match args with
 | [.a (.agg [c0,c1,c2,c3])] =>
  match ints [c0,c1,c2,c3],bools [] with
  | some [gGroups,gBanks,gRows,gCols],some []=>k (.a (.c (.int (lineN gGroups gBanks gRows gCols)))) ch []
  | _,_=>False
 | _=>False
theorem sLine_ok {f:FuncId}(hc:∀ args w,(callFunc f args).run Tryz.prog w=.ok (.enter f args) w)(h:∀ (gGroups gBanks gRows gCols:Int) (w:World),Calls Tryz.prog f #[.agg #[.int .i64 gGroups,.int .i64 gBanks,.int .i64 gRows,.int .i64 gCols]] w fun e w'=>e=.returned (.int .i64 (lineN gGroups gBanks gRows gCols))∧Below w.heap.size w w'):SmOK Tryz.prog f sLine:=by
 refine smB hc fun args ch k w X h0 hs=>?_
 unfold sLine at h0
 split at h0
 ·split at h0
  ·rename_i gGroups gBanks gRows gCols hi hb
   obtain ⟨e0,hi1⟩:=ints_cons hi
   obtain ⟨e1,hi2⟩:=ints_cons hi1
   obtain ⟨e2,hi3⟩:=ints_cons hi2
   obtain ⟨e3,hi4⟩:=ints_cons hi3
   refine ⟨_,h0,?_⟩
   simp only [List.map_cons,List.map_nil,den_a,den_c,SA.den,e0,e1,e2,e3]
   exact h gGroups gBanks gRows gCols w
  ·exact h0.elim
 ·exact h0.elim
theorem sLine_I:SmOK Tryz.prog 68 sLine:=sLine_ok Tryz.call68 lineI_any
theorem sLine_S:SmOK Tryz.prog 36 sLine:=sLine_ok Tryz.call36 lineS_any
theorem adokI_T (gGroups gBanks gRows gCols aBank aRow aCol:Int):(exFn Tryz.prog {tb:=[(132,sGeo),(133,sBank),(61,sBtw)]} 400 Tryz.f142 ([.a (.agg [.int gGroups,.int gBanks,.int gRows,.int gCols]),.a (.agg [.int aBank,.int aRow,.int aCol])]) ([]) (fun v _=>v.den=.bool (adOk gGroups gBanks gRows gCols aBank aRow aCol)))=(
 ∀ b c:Nat,b=b∧True∧((geoB gGroups gBanks gRows gCols)=true→c=c∧b=b∧True∧rng ((bankN gGroups gBanks gRows gCols)-(1:Int))∧True∧((btw aBank (0:Int) ((bankN gGroups gBanks gRows gCols)-(1:Int)))=true→c=c∧b=b∧rng (gRows-(1:Int))∧True∧((btw aRow (0:Int) (gRows-(1:Int)))=true→c=c∧b=b∧rng (gCols-(1:Int))∧True∧(Wb (btw aCol (0:Int) (gCols-(1:Int))))=(Wb (adOk gGroups gBanks gRows gCols aBank aRow aCol)))∧((btw aRow (0:Int) (gRows-(1:Int)))=false→(Wb false)=(Wb (adOk gGroups gBanks gRows gCols aBank aRow aCol))))∧((btw aBank (0:Int) ((bankN gGroups gBanks gRows gCols)-(1:Int)))=false→(Wb false)=(Wb (adOk gGroups gBanks gRows gCols aBank aRow aCol))))∧((geoB gGroups gBanks gRows gCols)=false→(Wb false)=(Wb (adOk gGroups gBanks gRows gCols aBank aRow aCol)))):=by kernel_rfl
theorem adokI_any (gGroups gBanks gRows gCols aBank aRow aCol:Int)(w:World):Calls Tryz.prog 142 #[.agg #[.int .i64 gGroups,.int .i64 gBanks,.int .i64 gRows,.int .i64 gCols],.agg #[.int .i64 aBank,.int .i64 aRow,.int .i64 aCol]] w fun e w'=>e=.returned (.bool (adOk gGroups gBanks gRows gCols aBank aRow aCol))∧Below w.heap.size w w':=by
 refine fnB (tb:=[(132,sGeo),(133,sBank),(61,sBtw)]) ⟨sGeo_I,sBank_I,sBtwI_ok,trivial⟩ Tryz.func142 (@Eq.mpr _ _ (adokI_T gGroups gBanks gRows gCols aBank aRow aCol) ?_) (HS.start w (fun _=>False)) (fun v ch' w' hk hs=>⟨by rw [hk],hs.below⟩)
 cases hg:geoB gGroups gBanks gRows gCols
 ·have hb:=(line_not hg).2
  have hok:adOk gGroups gBanks gRows gCols aBank aRow aCol=false:=by simp [adOk,hg]
  have hz:btw aBank 0 (bankN gGroups gBanks gRows gCols-1)=false:=by rw [hb];simp [btw];omega
  repeat' (first | with_reducible exact rfl | exact True.intro | refine And.intro ?_ ?_ | (intro h;exfalso;simp [hg] at h;done) | (intro h;exfalso;simp at h;done) | (intro h;exfalso;rw [hz] at h;simp at h;done) | intro _ | omega | (rw [hb];omega) | (simp [hok,hz];done))
 ·have hf:=geo_facts hg
  have hr:=geo_bank hg
  have hb:bankN gGroups gBanks gRows gCols=gGroups*gBanks:=by simp [bankN,hg]
  repeat' (first | with_reducible exact rfl | exact True.intro | refine And.intro ?_ ?_ | (intro h;exfalso;simp [hg] at h;done) | intro _ | omega | (rw [hb];omega))
  all_goals (simp_all [adOk];done)
theorem adokS_T (gGroups gBanks gRows gCols aBank aRow aCol:Int):(exFn Tryz.prog {tb:=[(101,sGeo),(102,sBank),(28,sBtw)]} 400 Tryz.f108 ([.a (.agg [.int gGroups,.int gBanks,.int gRows,.int gCols]),.a (.agg [.int aBank,.int aRow,.int aCol])]) ([]) (fun v _=>v.den=.bool (adOk gGroups gBanks gRows gCols aBank aRow aCol)))=(
 ∀ b c:Nat,c=c∧b=b∧True∧rng ((bankN gGroups gBanks gRows gCols)-(1:Int))∧True∧((btw aBank (0:Int) ((bankN gGroups gBanks gRows gCols)-(1:Int)))=true→c=c∧b=b∧rng (gRows-(1:Int))∧True∧((btw aRow (0:Int) (gRows-(1:Int)))=true→c=c∧b=b∧rng (gCols-(1:Int))∧True∧(Wb (btw aCol (0:Int) (gCols-(1:Int))))=(Wb (adOk gGroups gBanks gRows gCols aBank aRow aCol)))∧((btw aRow (0:Int) (gRows-(1:Int)))=false→(Wb false)=(Wb (adOk gGroups gBanks gRows gCols aBank aRow aCol))))∧((btw aBank (0:Int) ((bankN gGroups gBanks gRows gCols)-(1:Int)))=false→(Wb false)=(Wb (adOk gGroups gBanks gRows gCols aBank aRow aCol)))):=by kernel_rfl
theorem adokS_any (gGroups gBanks gRows gCols aBank aRow aCol:Int)(w:World):Calls Tryz.prog 108 #[.agg #[.int .i64 gGroups,.int .i64 gBanks,.int .i64 gRows,.int .i64 gCols],.agg #[.int .i64 aBank,.int .i64 aRow,.int .i64 aCol]] w fun e w'=>e=.returned (.bool (adOk gGroups gBanks gRows gCols aBank aRow aCol))∧Below w.heap.size w w':=by
 refine fnB (tb:=[(101,sGeo),(102,sBank),(28,sBtw)]) ⟨sGeo_S,sBank_S,sBtwS_ok,trivial⟩ Tryz.func108 (@Eq.mpr _ _ (adokS_T gGroups gBanks gRows gCols aBank aRow aCol) ?_) (HS.start w (fun _=>False)) (fun v ch' w' hk hs=>⟨by rw [hk],hs.below⟩)
 cases hg:geoB gGroups gBanks gRows gCols
 ·have hb:=(line_not hg).2
  have hok:adOk gGroups gBanks gRows gCols aBank aRow aCol=false:=by simp [adOk,hg]
  have hz:btw aBank 0 (bankN gGroups gBanks gRows gCols-1)=false:=by rw [hb];simp [btw];omega
  repeat' (first | with_reducible exact rfl | exact True.intro | refine And.intro ?_ ?_ | (intro h;exfalso;simp [hg] at h;done) | (intro h;exfalso;simp at h;done) | (intro h;exfalso;rw [hz] at h;simp at h;done) | intro _ | omega | (rw [hb];omega) | (simp [hok,hz];done))
 ·have hf:=geo_facts hg
  have hr:=geo_bank hg
  have hb:bankN gGroups gBanks gRows gCols=gGroups*gBanks:=by simp [bankN,hg]
  repeat' (first | with_reducible exact rfl | exact True.intro | refine And.intro ?_ ?_ | (intro h;exfalso;simp [hg] at h;done) | intro _ | omega | (rw [hb];omega))
  all_goals (simp_all [adOk];done)
def sAdOk:Sm:=fun args ch k =>
 match args with
 | [.a (.agg [c0,c1,c2,c3]),.a (.agg [c4,c5,c6])] =>
  match ints [c0,c1,c2,c3,c4,c5,c6],bools [] with
  | some [gGroups,gBanks,gRows,gCols,aBank,aRow,aCol],some []=>k (.a (.c (.bool (adOk gGroups gBanks gRows gCols aBank aRow aCol)))) ch []
  | _,_=>False
 | _=>False
theorem sAdOk_ok {f:FuncId}(hc:∀ args w,(callFunc f args).run Tryz.prog w=.ok (.enter f args) w)(h:∀ (gGroups gBanks gRows gCols aBank aRow aCol:Int) (w:World),Calls Tryz.prog f #[.agg #[.int .i64 gGroups,.int .i64 gBanks,.int .i64 gRows,.int .i64 gCols],.agg #[.int .i64 aBank,.int .i64 aRow,.int .i64 aCol]] w fun e w'=>e=.returned (.bool (adOk gGroups gBanks gRows gCols aBank aRow aCol))∧Below w.heap.size w w'):SmOK Tryz.prog f sAdOk:=by
 refine smB hc fun args ch k w X h0 hs=>?_
 unfold sAdOk at h0
 split at h0
 ·split at h0
  ·rename_i gGroups gBanks gRows gCols aBank aRow aCol hi hb
   obtain ⟨e0,hi1⟩:=ints_cons hi
   obtain ⟨e1,hi2⟩:=ints_cons hi1
   obtain ⟨e2,hi3⟩:=ints_cons hi2
   obtain ⟨e3,hi4⟩:=ints_cons hi3
   obtain ⟨e4,hi5⟩:=ints_cons hi4
   obtain ⟨e5,hi6⟩:=ints_cons hi5
   obtain ⟨e6,hi7⟩:=ints_cons hi6
   refine ⟨_,h0,?_⟩
   simp only [List.map_cons,List.map_nil,den_a,den_c,SA.den,e0,e1,e2,e3,e4,e5,e6]
   exact h gGroups gBanks gRows gCols aBank aRow aCol w
  ·exact h0.elim
 ·exact h0.elim
theorem sAdOk_I:SmOK Tryz.prog 142 sAdOk:=sAdOk_ok Tryz.call142 adokI_any
theorem sAdOk_S:SmOK Tryz.prog 108 sAdOk:=sAdOk_ok Tryz.call108 adokS_any
def sRowI:Sm:=inlM Tryz.prog {tb:=[(142,sAdOk)]} 300 Tryz.f187
theorem sRowI_ok:SmOK Tryz.prog 187 sRowI:=inlM_ok mixed (E:={tb:=[(142,sAdOk)]}) ⟨sAdOk_I,trivial⟩ Tryz.func187 Tryz.call187 (fun _ _ _=>loopsOK_nil _ _ _)
end Go.Proofs.YtmnccapnjphmfaaGreat
