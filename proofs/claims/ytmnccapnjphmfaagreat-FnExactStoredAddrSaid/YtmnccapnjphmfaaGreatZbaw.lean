/-
  FnExactStoredAddr: a part of the walk (merged and squeezed by program: SxPrP).
-/
import Derived.Test.YtmnccapnjphmfaaGreatZbav
namespace Go.Proofs.YtmnccapnjphmfaaGreat
set_option linter.unusedVariables false
set_option linter.unusedSimpArgs false
open Go.RowKit
set_option maxRecDepth 100000
set_option maxHeartbeats 8000000
def rqB (l rId rTenant rLine:Int)(rWrite:Bool)(rData rAt:Int):Bool:=btw rId 1 100000&&btw rTenant 0 3&&decide (rLine ≥ 0)&&decide (rLine<l)&&btw rData 0 4294967295&&(rWrite || ieq rData 0)&&btw rAt 0 1000000
def befB (aId aAt bId bAt:Int):Bool:=decide (aAt<bAt) || ieq aAt bAt&&decide (aId<bId)
def erB (eLine eCode eTimes:Int):Bool:=btw eLine 0 1023&&(ieq eCode 1 || ieq eCode 2)&&btw eTimes 1 999
theorem rqI_T (l:Int)(rId:Int)(rTenant:Int)(rLine:Int)(rWrite:Bool)(rData:Int)(rAt:Int):(exFn Tryz.prog {tb:=[(61,sBtw),(182,sIsWordI)]} 400 Tryz.f144 ([.a (.c (.int l)),.a (.agg [.int rId,.int rTenant,.int rLine,.bool rWrite,.int rData,.int rAt])]) ([]) (fun v _=>v.den=.bool (rqB l rId rTenant rLine rWrite rData rAt)))=(
 ∀ b:Nat,b=b∧((btw rId (1:Int) (100000:Int))=true→b=b∧((btw rTenant (0:Int) (3:Int))=true→b=b∧((decide (rLine ≥ (0:Int)))=true→b=b∧((decide (rLine<l))=true→b=b∧((btw rData (0:Int) (4294967295:Int))=true→b=b∧(rWrite=false→b=b∧((rData == (0:Int))=true→b=b∧(Wb (btw rAt (0:Int) (1000000:Int)))=(Wb (rqB l rId rTenant rLine rWrite rData rAt)))∧((rData == (0:Int))=false→(Wb false)=(Wb (rqB l rId rTenant rLine rWrite rData rAt))))∧(rWrite=true→b=b∧(Wb (btw rAt (0:Int) (1000000:Int)))=(Wb (rqB l rId rTenant rLine rWrite rData rAt))))∧((btw rData (0:Int) (4294967295:Int))=false→(Wb false)=(Wb (rqB l rId rTenant rLine rWrite rData rAt))))∧((decide (rLine<l))=false→(Wb false)=(Wb (rqB l rId rTenant rLine rWrite rData rAt))))∧((decide (rLine ≥ (0:Int)))=false→(Wb false)=(Wb (rqB l rId rTenant rLine rWrite rData rAt))))∧((btw rTenant (0:Int) (3:Int))=false→(Wb false)=(Wb (rqB l rId rTenant rLine rWrite rData rAt))))∧((btw rId (1:Int) (100000:Int))=false→(Wb false)=(Wb (rqB l rId rTenant rLine rWrite rData rAt)))):=by kernel_rfl
theorem rqI_any (l:Int)(rId:Int)(rTenant:Int)(rLine:Int)(rWrite:Bool)(rData:Int)(rAt:Int)(w:World):Calls Tryz.prog 144 #[.int .i64 l,.agg #[.int .i64 rId,.int .i64 rTenant,.int .i64 rLine,.bool rWrite,.int .i64 rData,.int .i64 rAt]] w fun e w'=>e=.returned (.bool (rqB l rId rTenant rLine rWrite rData rAt))∧Below w.heap.size w w':=by
 refine fnB (tb:=[(61,sBtw),(182,sIsWordI)]) ⟨sBtwI_ok,sIsWordI_ok,trivial⟩ Tryz.func144 (@Eq.mpr _ _ (rqI_T l rId rTenant rLine rWrite rData rAt) ?_) (HS.start w (fun _=>False)) (fun v ch' w' hk hs=>⟨by rw [hk],hs.below⟩)
 repeat' (first | with_reducible exact rfl | exact True.intro | refine And.intro ?_ ?_ | intro _)
 all_goals (simp only [rqB,ieq, *,Bool.true_and,Bool.and_true,Bool.false_and,Bool.and_false,Bool.true_or,Bool.or_true,Bool.false_or,Bool.or_false];done)
theorem rqS_T (l:Int)(rId:Int)(rTenant:Int)(rLine:Int)(rWrite:Bool)(rData:Int)(rAt:Int):(exFn Tryz.prog {tb:=[(28,sBtw),(169,sIsWordS)]} 400 Tryz.f110 ([.a (.c (.int l)),.a (.agg [.int rId,.int rTenant,.int rLine,.bool rWrite,.int rData,.int rAt])]) ([]) (fun v _=>v.den=.bool (rqB l rId rTenant rLine rWrite rData rAt)))=(
 ∀ b:Nat,b=b∧((btw rId (1:Int) (100000:Int))=true→b=b∧((btw rTenant (0:Int) (3:Int))=true→b=b∧((decide (rLine ≥ (0:Int)))=true→b=b∧((decide (rLine<l))=true→b=b∧((btw rData (0:Int) (4294967295:Int))=true→b=b∧(rWrite=false→b=b∧((rData == (0:Int))=true→b=b∧(Wb (btw rAt (0:Int) (1000000:Int)))=(Wb (rqB l rId rTenant rLine rWrite rData rAt)))∧((rData == (0:Int))=false→(Wb false)=(Wb (rqB l rId rTenant rLine rWrite rData rAt))))∧(rWrite=true→b=b∧(Wb (btw rAt (0:Int) (1000000:Int)))=(Wb (rqB l rId rTenant rLine rWrite rData rAt))))∧((btw rData (0:Int) (4294967295:Int))=false→(Wb false)=(Wb (rqB l rId rTenant rLine rWrite rData rAt))))∧((decide (rLine<l))=false→(Wb false)=(Wb (rqB l rId rTenant rLine rWrite rData rAt))))∧((decide (rLine ≥ (0:Int)))=false→(Wb false)=(Wb (rqB l rId rTenant rLine rWrite rData rAt))))∧((btw rTenant (0:Int) (3:Int))=false→(Wb false)=(Wb (rqB l rId rTenant rLine rWrite rData rAt))))∧((btw rId (1:Int) (100000:Int))=false→(Wb false)=(Wb (rqB l rId rTenant rLine rWrite rData rAt)))):=by kernel_rfl
theorem rqS_any (l:Int)(rId:Int)(rTenant:Int)(rLine:Int)(rWrite:Bool)(rData:Int)(rAt:Int)(w:World):Calls Tryz.prog 110 #[.int .i64 l,.agg #[.int .i64 rId,.int .i64 rTenant,.int .i64 rLine,.bool rWrite,.int .i64 rData,.int .i64 rAt]] w fun e w'=>e=.returned (.bool (rqB l rId rTenant rLine rWrite rData rAt))∧Below w.heap.size w w':=by
 refine fnB (tb:=[(28,sBtw),(169,sIsWordS)]) ⟨sBtwS_ok,sIsWordS_ok,trivial⟩ Tryz.func110 (@Eq.mpr _ _ (rqS_T l rId rTenant rLine rWrite rData rAt) ?_) (HS.start w (fun _=>False)) (fun v ch' w' hk hs=>⟨by rw [hk],hs.below⟩)
 repeat' (first | with_reducible exact rfl | exact True.intro | refine And.intro ?_ ?_ | intro _)
 all_goals (simp only [rqB,ieq, *,Bool.true_and,Bool.and_true,Bool.false_and,Bool.and_false,Bool.true_or,Bool.or_true,Bool.false_or,Bool.or_false];done)
def sRqB:Sm:=fun args ch kk =>
 match args with
 | [.a (.c c0),.a (.agg [c1,c2,c3,c4,c5,c6])] =>
  match ints [c0,c1,c2,c3,c5,c6],bools [c4] with
  | some [l,rId,rTenant,rLine,rData,rAt],some [rWrite]=>kk (.a (.c (.bool (rqB l rId rTenant rLine rWrite rData rAt)))) ch []
  | _,_=>False
 | _=>False
theorem sRqB_ok {f:FuncId}(hc:∀ args w,(callFunc f args).run Tryz.prog w=.ok (.enter f args) w)(h:∀ (l:Int) (rId:Int) (rTenant:Int) (rLine:Int) (rWrite:Bool) (rData:Int) (rAt:Int) (w:World),Calls Tryz.prog f #[.int .i64 l,.agg #[.int .i64 rId,.int .i64 rTenant,.int .i64 rLine,.bool rWrite,.int .i64 rData,.int .i64 rAt]] w fun e w'=>e=.returned (.bool (rqB l rId rTenant rLine rWrite rData rAt))∧Below w.heap.size w w'):SmOK Tryz.prog f sRqB:=by
 refine smB hc fun args ch kk w X h0 hs=>?_
 unfold sRqB at h0
 split at h0
 ·rename_i c0 c1 c2 c3 c4 c5 c6
  split at h0
  ·rename_i l rId rTenant rLine rData rAt rWrite hi hb
   obtain ⟨ec0,hi⟩:=ints_cons hi
   obtain ⟨ec1,hi⟩:=ints_cons hi
   obtain ⟨ec2,hi⟩:=ints_cons hi
   obtain ⟨ec3,hi⟩:=ints_cons hi
   obtain ⟨ec5,hi⟩:=ints_cons hi
   obtain ⟨ec6,hi⟩:=ints_cons hi
   obtain ⟨ec4,hb⟩:=bools_cons hb
   refine ⟨_,h0,?_⟩
   simp only [List.map_cons,List.map_nil,den_a,den_c,SA.den,den_sl,ec0,ec1,ec2,ec3,ec5,ec6,ec4]
   exact h l rId rTenant rLine rWrite rData rAt w
  ·exact h0.elim
 ·exact h0.elim
theorem sRqB_ok_rqI:SmOK Tryz.prog 144 sRqB:=sRqB_ok Tryz.call144 (fun l rId rTenant rLine rWrite rData rAt w=>rqI_any l rId rTenant rLine rWrite rData rAt w)
theorem sRqB_ok_rqS:SmOK Tryz.prog 110 sRqB:=sRqB_ok Tryz.call110 (fun l rId rTenant rLine rWrite rData rAt w=>rqS_any l rId rTenant rLine rWrite rData rAt w)
theorem bfI_T (aId:Int)(aTenant:Int)(aLine:Int)(aWrite:Bool)(aData:Int)(aAt:Int)(bId:Int)(bTenant:Int)(bLine:Int)(bWrite:Bool)(bData:Int)(bAt:Int):(exFn Tryz.prog {tb:=[]} 400 Tryz.f145 ([.a (.agg [.int aId,.int aTenant,.int aLine,.bool aWrite,.int aData,.int aAt]),.a (.agg [.int bId,.int bTenant,.int bLine,.bool bWrite,.int bData,.int bAt])]) ([]) (fun v _=>v.den=.bool (befB aId aAt bId bAt)))=(
 ∀ b c:Nat,b=b∧c=c∧((decide (aAt<bAt))=false→b=b∧c=c∧((aAt == bAt)=true→b=b∧c=c∧(Wb (decide (aId<bId)))=(Wb (befB aId aAt bId bAt)))∧((aAt == bAt)=false→(Wb false)=(Wb (befB aId aAt bId bAt))))∧((decide (aAt<bAt))=true→(Wb true)=(Wb (befB aId aAt bId bAt)))):=by kernel_rfl
theorem bfI_any (aId:Int)(aTenant:Int)(aLine:Int)(aWrite:Bool)(aData:Int)(aAt:Int)(bId:Int)(bTenant:Int)(bLine:Int)(bWrite:Bool)(bData:Int)(bAt:Int)(w:World):Calls Tryz.prog 145 #[.agg #[.int .i64 aId,.int .i64 aTenant,.int .i64 aLine,.bool aWrite,.int .i64 aData,.int .i64 aAt],.agg #[.int .i64 bId,.int .i64 bTenant,.int .i64 bLine,.bool bWrite,.int .i64 bData,.int .i64 bAt]] w fun e w'=>e=.returned (.bool (befB aId aAt bId bAt))∧Below w.heap.size w w':=by
 refine fnB (tb:=[]) trivial Tryz.func145 (@Eq.mpr _ _ (bfI_T aId aTenant aLine aWrite aData aAt bId bTenant bLine bWrite bData bAt) ?_) (HS.start w (fun _=>False)) (fun v ch' w' hk hs=>⟨by rw [hk],hs.below⟩)
 repeat' (first | with_reducible exact rfl | exact True.intro | refine And.intro ?_ ?_ | intro _)
 all_goals (simp only [befB,ieq, *,Bool.true_and,Bool.and_true,Bool.false_and,Bool.and_false,Bool.true_or,Bool.or_true,Bool.false_or,Bool.or_false];done)
theorem bfS_T (aId:Int)(aTenant:Int)(aLine:Int)(aWrite:Bool)(aData:Int)(aAt:Int)(bId:Int)(bTenant:Int)(bLine:Int)(bWrite:Bool)(bData:Int)(bAt:Int):(exFn Tryz.prog {tb:=[]} 400 Tryz.f111 ([.a (.agg [.int aId,.int aTenant,.int aLine,.bool aWrite,.int aData,.int aAt]),.a (.agg [.int bId,.int bTenant,.int bLine,.bool bWrite,.int bData,.int bAt])]) ([]) (fun v _=>v.den=.bool (befB aId aAt bId bAt)))=(
 ∀ b c:Nat,b=b∧c=c∧((decide (aAt<bAt))=false→b=b∧c=c∧((aAt == bAt)=true→b=b∧c=c∧(Wb (decide (aId<bId)))=(Wb (befB aId aAt bId bAt)))∧((aAt == bAt)=false→(Wb false)=(Wb (befB aId aAt bId bAt))))∧((decide (aAt<bAt))=true→(Wb true)=(Wb (befB aId aAt bId bAt)))):=by kernel_rfl
theorem bfS_any (aId:Int)(aTenant:Int)(aLine:Int)(aWrite:Bool)(aData:Int)(aAt:Int)(bId:Int)(bTenant:Int)(bLine:Int)(bWrite:Bool)(bData:Int)(bAt:Int)(w:World):Calls Tryz.prog 111 #[.agg #[.int .i64 aId,.int .i64 aTenant,.int .i64 aLine,.bool aWrite,.int .i64 aData,.int .i64 aAt],.agg #[.int .i64 bId,.int .i64 bTenant,.int .i64 bLine,.bool bWrite,.int .i64 bData,.int .i64 bAt]] w fun e w'=>e=.returned (.bool (befB aId aAt bId bAt))∧Below w.heap.size w w':=by
 refine fnB (tb:=[]) trivial Tryz.func111 (@Eq.mpr _ _ (bfS_T aId aTenant aLine aWrite aData aAt bId bTenant bLine bWrite bData bAt) ?_) (HS.start w (fun _=>False)) (fun v ch' w' hk hs=>⟨by rw [hk],hs.below⟩)
 repeat' (first | with_reducible exact rfl | exact True.intro | refine And.intro ?_ ?_ | intro _)
 all_goals (simp only [befB,ieq, *,Bool.true_and,Bool.and_true,Bool.false_and,Bool.and_false,Bool.true_or,Bool.or_true,Bool.false_or,Bool.or_false];done)
def sBefB:Sm:=fun args ch kk =>
 match args with
 | [.a (.agg [c0,c1,c2,c3,c4,c5]),.a (.agg [c6,c7,c8,c9,c10,c11])] =>
  match ints [c0,c1,c2,c4,c5,c6,c7,c8,c10,c11],bools [c3,c9] with
  | some [aId,aTenant,aLine,aData,aAt,bId,bTenant,bLine,bData,bAt],some [aWrite,bWrite]=>kk (.a (.c (.bool (befB aId aAt bId bAt)))) ch []
  | _,_=>False
 | _=>False
theorem sBefB_ok {f:FuncId}(hc:∀ args w,(callFunc f args).run Tryz.prog w=.ok (.enter f args) w)(h:∀ (aId:Int) (aTenant:Int) (aLine:Int) (aWrite:Bool) (aData:Int) (aAt:Int) (bId:Int) (bTenant:Int) (bLine:Int) (bWrite:Bool) (bData:Int) (bAt:Int) (w:World),Calls Tryz.prog f #[.agg #[.int .i64 aId,.int .i64 aTenant,.int .i64 aLine,.bool aWrite,.int .i64 aData,.int .i64 aAt],.agg #[.int .i64 bId,.int .i64 bTenant,.int .i64 bLine,.bool bWrite,.int .i64 bData,.int .i64 bAt]] w fun e w'=>e=.returned (.bool (befB aId aAt bId bAt))∧Below w.heap.size w w'):SmOK Tryz.prog f sBefB:=by
 refine smB hc fun args ch kk w X h0 hs=>?_
 unfold sBefB at h0
 split at h0
 ·rename_i c0 c1 c2 c3 c4 c5 c6 c7 c8 c9 c10 c11
  split at h0
  ·rename_i aId aTenant aLine aData aAt bId bTenant bLine bData bAt aWrite bWrite hi hb
   obtain ⟨ec0,hi⟩:=ints_cons hi
   obtain ⟨ec1,hi⟩:=ints_cons hi
   obtain ⟨ec2,hi⟩:=ints_cons hi
   obtain ⟨ec4,hi⟩:=ints_cons hi
   obtain ⟨ec5,hi⟩:=ints_cons hi
   obtain ⟨ec6,hi⟩:=ints_cons hi
   obtain ⟨ec7,hi⟩:=ints_cons hi
   obtain ⟨ec8,hi⟩:=ints_cons hi
   obtain ⟨ec10,hi⟩:=ints_cons hi
   obtain ⟨ec11,hi⟩:=ints_cons hi
   obtain ⟨ec3,hb⟩:=bools_cons hb
   obtain ⟨ec9,hb⟩:=bools_cons hb
   refine ⟨_,h0,?_⟩
   simp only [List.map_cons,List.map_nil,den_a,den_c,SA.den,den_sl,ec0,ec1,ec2,ec4,ec5,ec6,ec7,ec8,ec10,ec11,ec3,ec9]
   exact h aId aTenant aLine aWrite aData aAt bId bTenant bLine bWrite bData bAt w
  ·exact h0.elim
 ·exact h0.elim
theorem sBefB_ok_bfI:SmOK Tryz.prog 145 sBefB:=sBefB_ok Tryz.call145 (fun aId aTenant aLine aWrite aData aAt bId bTenant bLine bWrite bData bAt w=>bfI_any aId aTenant aLine aWrite aData aAt bId bTenant bLine bWrite bData bAt w)
theorem sBefB_ok_bfS:SmOK Tryz.prog 111 sBefB:=sBefB_ok Tryz.call111 (fun aId aTenant aLine aWrite aData aAt bId bTenant bLine bWrite bData bAt w=>bfS_any aId aTenant aLine aWrite aData aAt bId bTenant bLine bWrite bData bAt w)
theorem erS_T (eLine:Int)(eCode:Int)(eTimes:Int):(exFn Tryz.prog {tb:=[(28,sBtw)]} 400 Tryz.f113 ([.a (.agg [.int eLine,.int eCode,.int eTimes])]) ([]) (fun v _=>v.den=.bool (erB eLine eCode eTimes)))=(
 ∀ b:Nat,b=b∧((btw eLine (0:Int) (1023:Int))=true→b=b∧((eCode == (1:Int))=false→b=b∧((eCode == (2:Int))=true→b=b∧(Wb (btw eTimes (1:Int) (999:Int)))=(Wb (erB eLine eCode eTimes)))∧((eCode == (2:Int))=false→(Wb false)=(Wb (erB eLine eCode eTimes))))∧((eCode == (1:Int))=true→b=b∧(Wb (btw eTimes (1:Int) (999:Int)))=(Wb (erB eLine eCode eTimes))))∧((btw eLine (0:Int) (1023:Int))=false→(Wb false)=(Wb (erB eLine eCode eTimes)))):=by kernel_rfl
theorem erS_any (eLine:Int)(eCode:Int)(eTimes:Int)(w:World):Calls Tryz.prog 113 #[.agg #[.int .i64 eLine,.int .i64 eCode,.int .i64 eTimes]] w fun e w'=>e=.returned (.bool (erB eLine eCode eTimes))∧Below w.heap.size w w':=by
 refine fnB (tb:=[(28,sBtw)]) ⟨sBtwS_ok,trivial⟩ Tryz.func113 (@Eq.mpr _ _ (erS_T eLine eCode eTimes) ?_) (HS.start w (fun _=>False)) (fun v ch' w' hk hs=>⟨by rw [hk],hs.below⟩)
 repeat' (first | with_reducible exact rfl | exact True.intro | refine And.intro ?_ ?_ | intro _)
 all_goals (simp only [erB,ieq, *,Bool.true_and,Bool.and_true,Bool.false_and,Bool.and_false,Bool.true_or,Bool.or_true,Bool.false_or,Bool.or_false];done)
def sErB:Sm:=fun args ch kk =>
 match args with
 | [.a (.agg [c0,c1,c2])] =>
  match ints [c0,c1,c2] with
  | some [eLine,eCode,eTimes]=>kk (.a (.c (.bool (erB eLine eCode eTimes)))) ch []
  | _=>False
 | _=>False
theorem sErB_ok {f:FuncId}(hc:∀ args w,(callFunc f args).run Tryz.prog w=.ok (.enter f args) w)(h:∀ (eLine:Int) (eCode:Int) (eTimes:Int) (w:World),Calls Tryz.prog f #[.agg #[.int .i64 eLine,.int .i64 eCode,.int .i64 eTimes]] w fun e w'=>e=.returned (.bool (erB eLine eCode eTimes))∧Below w.heap.size w w'):SmOK Tryz.prog f sErB:=by
 refine smB hc fun args ch kk w X h0 hs=>?_
 unfold sErB at h0
 split at h0
 ·rename_i c0 c1 c2
  split at h0
  ·rename_i eLine eCode eTimes hi
   obtain ⟨ec0,hi⟩:=ints_cons hi
   obtain ⟨ec1,hi⟩:=ints_cons hi
   obtain ⟨ec2,hi⟩:=ints_cons hi
   refine ⟨_,h0,?_⟩
   simp only [List.map_cons,List.map_nil,den_a,den_c,SA.den,den_sl,ec0,ec1,ec2]
   exact h eLine eCode eTimes w
  ·exact h0.elim
 ·exact h0.elim
theorem sErB_ok_erS:SmOK Tryz.prog 113 sErB:=sErB_ok Tryz.call113 (fun eLine eCode eTimes w=>erS_any eLine eCode eTimes w)
end Go.Proofs.YtmnccapnjphmfaaGreat
