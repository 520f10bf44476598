/-
  FnExactStoredAddr: a part of the walk (merged and squeezed by program: SxML).
-/
import Derived.Test.YtmnccapnjphmfaaGreatZbbc
namespace Go.Proofs.YtmnccapnjphmfaaGreat
set_option linter.unusedVariables false
set_option linter.unusedSimpArgs false
open Go.RowKit
set_option maxRecDepth 100000
set_option maxHeartbeats 8000000
def mlB (G B R K od line:Int):Bool:=geoB G B R K&&btw od 0 2&&btw line 0 (lineN G B R K-1)
def mlR (od n R K line:Int):Int:=if ieq od 0=true then line / K / n else if ieq od 1=true then line / n / K else line / K % R
def mlC (od n K line:Int):Int:=if ieq od 1=true then line / n % K else line % K
def mlP (od n R K line:Int):Int:=if ieq od 0=true then line / K % n else if ieq od 1=true then line % n else line / K / R
def mlK (od:Int)(h:Bool)(n R K line:Int):Int:=if h=true then (mlP od n R K line+mlR od n R K line) % n else mlP od n R K line
theorem ml_in {od n R K line:Int}{h:Bool}(hn:1≤n∧n≤8)(hR:2≤R∧R≤16)(hK:1≤K∧K≤8)(h0:0≤line)(h1:line<n*R*K):(0≤mlK od h n R K line∧mlK od h n R K line<n)∧(0≤mlR od n R K line∧mlR od n R K line<R):=by
 have a1:line / K<n*R:=Int.ediv_lt_of_lt_mul (by omega) h1
 have a0:0≤line / K:=Int.ediv_nonneg h0 (by omega)
 have a2:line / K / n<R:=Int.ediv_lt_of_lt_mul (by omega) (by rw [Int.mul_comm];exact a1)
 have a3:0≤line / K / n:=Int.ediv_nonneg a0 (by omega)
 have a4:line / n<R*K:=Int.ediv_lt_of_lt_mul (by omega) (by rw [Int.mul_comm,← Int.mul_assoc];exact h1)
 have a5:0≤line / n:=Int.ediv_nonneg h0 (by omega)
 have a6:line / n / K<R:=Int.ediv_lt_of_lt_mul (by omega) a4
 have a7:0≤line / n / K:=Int.ediv_nonneg a5 (by omega)
 have a8:line / K / R<n:=Int.ediv_lt_of_lt_mul (by omega) a1
 have a9:0≤line / K / R:=Int.ediv_nonneg a0 (by omega)
 have b1:∀ z:Int,0≤z % n∧z % n<n:=fun z=>⟨Int.emod_nonneg _ (by omega),Int.emod_lt_of_pos _ (by omega)⟩
 have b2:0≤line / K % R∧line / K % R<R:=⟨Int.emod_nonneg _ (by omega),Int.emod_lt_of_pos _ (by omega)⟩
 have p:0≤mlP od n R K line∧mlP od n R K line<n:=by
  simp only [mlP]
  split
  ·exact b1 _
  ·split
   ·exact b1 _
   ·exact ⟨a9,a8⟩
 have r:0≤mlR od n R K line∧mlR od n R K line<R:=by
  simp only [mlR]
  split
  ·exact ⟨a3,a2⟩
  ·split
   ·exact ⟨a7,a6⟩
   ·exact b2
 refine ⟨?_,r⟩
 simp only [mlK]
 split
 ·exact b1 _
 ·exact p
theorem mlI_T (gGroups:Int)(gBanks:Int)(gRows:Int)(gCols:Int)(mOrder:Int)(mHash:Bool)(line:Int):(exFn Tryz.prog {tb:=[(132,sGeo),(175,sMap),(68,sLine),(61,sBtw),(133,sBank)]} 400 Tryz.f160 ([.a (.agg [.int gGroups,.int gBanks,.int gRows,.int gCols]),.a (.agg [.int mOrder,.bool mHash]),.a (.c (.int line))]) ([]) (fun v _=>v.den=.tuple #[.agg #[.int .i64 (ifZ (mlB gGroups gBanks gRows gCols mOrder line) (mlK mOrder mHash (bankN gGroups gBanks gRows gCols) gRows gCols line)),.int .i64 (ifZ (mlB gGroups gBanks gRows gCols mOrder line) (mlR mOrder (bankN gGroups gBanks gRows gCols) gRows gCols line)),.int .i64 (ifZ (mlB gGroups gBanks gRows gCols mOrder line) (mlC mOrder (bankN gGroups gBanks gRows gCols) gCols line))],.bool (mlB gGroups gBanks gRows gCols mOrder line)]))=(
 (fun b:Value=>(fun d:Value=>(fun g:Int=>(fun h:Int=>(fun j:Bool=>(fun k:Bool=>(fun l:Bool=>(fun m:Value=>(fun n:Value=>(fun o:Value=>(fun p:Value=>(fun q:Bool=>(fun r:Value=>∀ s t u:Nat,(fun w:Prop=>s=s∧(k=false→t=t∧(j=false→s=s∧rng (h-(1:Int))∧(q=true→w)∧(q=false→s=s∧∀ x:Nat,x=x∧t=t∧((mOrder == (0:Int))=true→s=s∧divC line gCols∧s=s∧divC line gCols∧divC (line / gCols) g∧s=s∧divC line gCols∧divC (line / gCols) g∧x=x∧True∧t=t∧(mHash=true→x=x∧x=x∧rng (((line / gCols) % g)+((line / gCols) / g))∧divC (((line / gCols) % g)+((line / gCols) / g)) g∧x=x∧x=x∧u=u∧u=u∧(Wu [Wa [Wi ((((line / gCols) % g)+((line / gCols) / g)) % g),p,d],b])=r)∧(mHash=false→x=x∧u=u∧u=u∧(Wu [Wa [Wi ((line / gCols) % g),p,d],b])=r))∧((mOrder == (0:Int))=false→((mOrder == (1:Int))=true→divC line g∧divC line g∧s=s∧divC (line / g) gCols∧divC line g∧s=s∧divC (line / g) gCols∧x=x∧True∧t=t∧(mHash=true→x=x∧x=x∧rng ((line % g)+((line / g) / gCols))∧divC ((line % g)+((line / g) / gCols)) g∧x=x∧x=x∧u=u∧u=u∧(Wu [Wa [Wi (((line % g)+((line / g) / gCols)) % g),o,n],b])=r)∧(mHash=false→x=x∧u=u∧u=u∧(Wu [Wa [Wi (line % g),o,n],b])=r))∧((mOrder == (1:Int))=false→s=s∧divC line gCols∧s=s∧divC line gCols∧s=s∧divC (line / gCols) gRows∧s=s∧divC line gCols∧s=s∧divC (line / gCols) gRows∧x=x∧True∧t=t∧(mHash=true→x=x∧x=x∧rng (((line / gCols) / gRows)+((line / gCols) % gRows))∧divC (((line / gCols) / gRows)+((line / gCols) % gRows)) g∧x=x∧x=x∧u=u∧u=u∧(Wu [Wa [Wi ((((line / gCols) / gRows)+((line / gCols) % gRows)) % g),Wi ((line / gCols) % gRows),d],b])=r)∧(mHash=false→x=x∧u=u∧u=u∧(Wu [Wa [Wi ((line / gCols) / gRows),Wi ((line / gCols) % gRows),d],b])=r)))))∧(j=true→w))∧(k=true→w)) (u=u∧u=u∧m=r)) (Wu [Wa [Wi (ifZ l (mlK mOrder mHash g gRows gCols line)),Wi (ifZ l (mlR mOrder g gRows gCols line)),Wi (ifZ l (mlC mOrder g gCols line))],Wb l])) (! (btw line (0:Int) (h-(1:Int))))) (Wi ((line / gCols) / g))) (Wi ((line / g) / gCols))) (Wi ((line / g) % gCols))) (Wu [Wa [Wi 0,Wi 0,Wi 0],Wb false])) (mlB gGroups gBanks gRows gCols mOrder line)) (! (geoB gGroups gBanks gRows gCols))) (! (btw mOrder (0:Int) (2:Int)))) (lineN gGroups gBanks gRows gCols)) (bankN gGroups gBanks gRows gCols)) (Wi (line % gCols))) (Wb true)):=by kernel_rfl
theorem mlI_any (gGroups:Int)(gBanks:Int)(gRows:Int)(gCols:Int)(mOrder:Int)(mHash:Bool)(line:Int)(w:World):Calls Tryz.prog 160 #[.agg #[.int .i64 gGroups,.int .i64 gBanks,.int .i64 gRows,.int .i64 gCols],.agg #[.int .i64 mOrder,.bool mHash],.int .i64 line] w fun e w'=>e=.returned (.tuple #[.agg #[.int .i64 (ifZ (mlB gGroups gBanks gRows gCols mOrder line) (mlK mOrder mHash (bankN gGroups gBanks gRows gCols) gRows gCols line)),.int .i64 (ifZ (mlB gGroups gBanks gRows gCols mOrder line) (mlR mOrder (bankN gGroups gBanks gRows gCols) gRows gCols line)),.int .i64 (ifZ (mlB gGroups gBanks gRows gCols mOrder line) (mlC mOrder (bankN gGroups gBanks gRows gCols) gCols line))],.bool (mlB gGroups gBanks gRows gCols mOrder line)])∧Below w.heap.size w w':=by
 refine fnB (tb:=[(132,sGeo),(175,sMap),(68,sLine),(61,sBtw),(133,sBank)]) ⟨sGeo_I,sMap_I,sLine_I,sBtwI_ok,sBank_I,trivial⟩ Tryz.func160 (@Eq.mpr _ _ (mlI_T gGroups gBanks gRows gCols mOrder mHash line) ?_) (HS.start w (fun _=>False)) (fun v ch' w' hk hs=>⟨by rw [hk],hs.below⟩)
 dsimp -zeta -proj -iota -eta -failIfUnchanged (etaStruct:=.none) only
 cases hg:geoB gGroups gBanks gRows gCols
 ·have hl:lineN gGroups gBanks gRows gCols=0:=(line_not hg).1
  have hok:mlB gGroups gBanks gRows gCols mOrder line=false:=by simp only [mlB,hg,Bool.false_and]
  have hz:btw line 0 (lineN gGroups gBanks gRows gCols-1)=false:=by rw [hl];simp [btw];omega
  have hr:rng (lineN gGroups gBanks gRows gCols-1):=by rw [hl];exact ⟨by omega,by omega⟩
  repeat' (first
   | with_reducible exact rfl
   | exact True.intro
   | with_reducible assumption
   | (with_reducible exact hr)
   | (simp only [hok];done)
   | (simp only [hok,ifZ];done)
   | (simp [hok,ifZ];done)
   | refine And.intro ?_ ?_
   | apply Exists.intro
   | (refine fun (h:@Eq Bool _ _)=>?_;exfalso;first | (simp [hg,hz] at h;done) | (simp [hg,hz] at h;omega))
   | intro _
   | omega
   | exact rfl)
 ·have hf:=geo_facts hg
  have hbk:=geo_bank hg
  have hb:bankN gGroups gBanks gRows gCols=gGroups*gBanks:=by simp [bankN,hg]
  rw [← hb] at hbk
  have hl:lineN gGroups gBanks gRows gCols=bankN gGroups gBanks gRows gCols*gRows*gCols:=line_row hg
  have hlb:=line_bd gGroups gBanks gRows gCols
  have hr:rng (lineN gGroups gBanks gRows gCols-1):=⟨by omega,by omega⟩
  cases ho:btw mOrder 0 2
  ·have hok:mlB gGroups gBanks gRows gCols mOrder line=false:=by simp only [mlB,ho,Bool.false_and,Bool.and_false]
   repeat' (first
    | with_reducible exact rfl
    | exact True.intro
    | with_reducible assumption
    | (with_reducible exact hr)
    | (simp [hok,ifZ];done)
    | refine And.intro ?_ ?_
    | apply Exists.intro
    | (refine fun (h:@Eq Bool _ _)=>?_;exfalso;first | (simp [hg,ho] at h;done) | (simp [hg,ho] at h;omega))
    | intro _
    | omega
    | exact rfl)
  ·cases hz:btw line 0 (lineN gGroups gBanks gRows gCols-1)
   ·have hok:mlB gGroups gBanks gRows gCols mOrder line=false:=by simp only [mlB,hz,Bool.and_false]
    repeat' (first
     | with_reducible exact rfl
     | exact True.intro
     | with_reducible assumption
     | (with_reducible exact hr)
     | (simp [hok,ifZ];done)
     | refine And.intro ?_ ?_
     | apply Exists.intro
     | (refine fun (h:@Eq Bool _ _)=>?_;exfalso;first | (simp [hg,ho,hz] at h;done) | (simp [hg,ho,hz] at h;omega))
     | intro _
     | omega
     | exact rfl)
   ·have hok:mlB gGroups gBanks gRows gCols mOrder line=true:=by simp only [mlB,hg,ho,hz,Bool.and_true]
    have hz2:=btw_facts' hz
    have ho2:=btw_facts' ho
    rw [hl] at hz2
    obtain ⟨z1,z2⟩:=hz2
    obtain ⟨_,_,⟨r1,r2⟩,⟨k1,k2⟩⟩:=hf
    obtain ⟨n1,n2⟩:=hbk
    have zz:line≤1024:=by omega
    have q1:0≤line / gCols∧line / gCols≤1024:=⟨Int.ediv_nonneg z1 (by omega),by have:=Int.ediv_le_self gCols z1;omega⟩
    have q2:0≤line / bankN gGroups gBanks gRows gCols∧line / bankN gGroups gBanks gRows gCols≤1024:=⟨Int.ediv_nonneg z1 (by omega),by have:=Int.ediv_le_self (bankN gGroups gBanks gRows gCols) z1;omega⟩
    have hin:∀ h,_:=fun h=>ml_in (od:=mOrder) (h:=h) ⟨n1,n2⟩ ⟨r1,r2⟩ ⟨k1,k2⟩ z1 (by omega)
    have hp:=(hin false).1
    have hw:=(hin false).2
    clear hin hlb
    have hcs:mOrder=0∨mOrder=1∨mOrder=2:=by omega
    rcases hcs with rfl | rfl | rfl <;> cases mHash
    all_goals simp only [mlK,mlP,mlR,ieq,beq_self_eq_true,if_true,reduceCtorEq,Bool.false_eq_true,if_false,Int.reduceBEq] at hp hw
    all_goals
     repeat' (first
      | with_reducible exact rfl
      | exact True.intro
      | with_reducible assumption
      | (with_reducible exact hr)
      | (show divC _ _;exact ⟨by omega,by omega,by omega⟩)
      | (show rng _;exact ⟨by omega,by omega⟩)
      | (simp [hok,ifZ,mlK,mlP,mlR,mlC,ieq];done)
      | refine And.intro ?_ ?_
      | apply Exists.intro
      | (refine fun (h:@Eq Bool _ _)=>?_;exfalso;first | (simp [hg,ho,hz] at h;done) | (simp [hg,ho,hz] at h;omega))
      | intro _
      | omega
      | exact rfl)
theorem mlS_T (gGroups:Int)(gBanks:Int)(gRows:Int)(gCols:Int)(mOrder:Int)(mHash:Bool)(line:Int):(exFn Tryz.prog {tb:=[(164,sMap),(36,sLine),(28,sBtw),(102,sBank)]} 400 Tryz.f159 ([.a (.agg [.int gGroups,.int gBanks,.int gRows,.int gCols]),.a (.agg [.int mOrder,.bool mHash]),.a (.c (.int line))]) ([]) (fun v _=>v.den=.tuple #[.agg #[.int .i64 (ifZ (mlB gGroups gBanks gRows gCols mOrder line) (mlK mOrder mHash (bankN gGroups gBanks gRows gCols) gRows gCols line)),.int .i64 (ifZ (mlB gGroups gBanks gRows gCols mOrder line) (mlR mOrder (bankN gGroups gBanks gRows gCols) gRows gCols line)),.int .i64 (ifZ (mlB gGroups gBanks gRows gCols mOrder line) (mlC mOrder (bankN gGroups gBanks gRows gCols) gCols line))],.bool (mlB gGroups gBanks gRows gCols mOrder line)]))=(
 (fun b:Value=>(fun d:Value=>(fun g:Int=>(fun h:Int=>(fun j:Bool=>(fun k:Bool=>(fun l:Value=>(fun m:Value=>(fun n:Value=>(fun o:Value=>(fun p:Bool=>(fun q:Value=>∀ r s t:Nat,(fun u:Prop=>s=s∧(j=false→r=r∧rng (h-(1:Int))∧(p=true→u)∧(p=false→r=r∧∀ w:Nat,w=w∧s=s∧((mOrder == (0:Int))=true→r=r∧divC line gCols∧r=r∧divC line gCols∧divC (line / gCols) g∧r=r∧divC line gCols∧divC (line / gCols) g∧w=w∧True∧s=s∧(mHash=true→w=w∧w=w∧rng (((line / gCols) % g)+((line / gCols) / g))∧divC (((line / gCols) % g)+((line / gCols) / g)) g∧w=w∧w=w∧t=t∧t=t∧(Wu [Wa [Wi ((((line / gCols) % g)+((line / gCols) / g)) % g),o,d],b])=q)∧(mHash=false→w=w∧t=t∧t=t∧(Wu [Wa [Wi ((line / gCols) % g),o,d],b])=q))∧((mOrder == (0:Int))=false→((mOrder == (1:Int))=true→divC line g∧divC line g∧r=r∧divC (line / g) gCols∧divC line g∧r=r∧divC (line / g) gCols∧w=w∧True∧s=s∧(mHash=true→w=w∧w=w∧rng ((line % g)+((line / g) / gCols))∧divC ((line % g)+((line / g) / gCols)) g∧w=w∧w=w∧t=t∧t=t∧(Wu [Wa [Wi (((line % g)+((line / g) / gCols)) % g),n,m],b])=q)∧(mHash=false→w=w∧t=t∧t=t∧(Wu [Wa [Wi (line % g),n,m],b])=q))∧((mOrder == (1:Int))=false→r=r∧divC line gCols∧r=r∧divC line gCols∧r=r∧divC (line / gCols) gRows∧r=r∧divC line gCols∧r=r∧divC (line / gCols) gRows∧w=w∧True∧s=s∧(mHash=true→w=w∧w=w∧rng (((line / gCols) / gRows)+((line / gCols) % gRows))∧divC (((line / gCols) / gRows)+((line / gCols) % gRows)) g∧w=w∧w=w∧t=t∧t=t∧(Wu [Wa [Wi ((((line / gCols) / gRows)+((line / gCols) % gRows)) % g),Wi ((line / gCols) % gRows),d],b])=q)∧(mHash=false→w=w∧t=t∧t=t∧(Wu [Wa [Wi ((line / gCols) / gRows),Wi ((line / gCols) % gRows),d],b])=q)))))∧(j=true→u)) (t=t∧t=t∧l=q)) (Wu [Wa [Wi (ifZ k (mlK mOrder mHash g gRows gCols line)),Wi (ifZ k (mlR mOrder g gRows gCols line)),Wi (ifZ k (mlC mOrder g gCols line))],Wb k])) (! (btw line (0:Int) (h-(1:Int))))) (Wi ((line / gCols) / g))) (Wi ((line / g) / gCols))) (Wi ((line / g) % gCols))) (Wu [Wa [Wi 0,Wi 0,Wi 0],Wb false])) (mlB gGroups gBanks gRows gCols mOrder line)) (! (btw mOrder (0:Int) (2:Int)))) (lineN gGroups gBanks gRows gCols)) (bankN gGroups gBanks gRows gCols)) (Wi (line % gCols))) (Wb true)):=by kernel_rfl
theorem mlS_any (gGroups:Int)(gBanks:Int)(gRows:Int)(gCols:Int)(mOrder:Int)(mHash:Bool)(line:Int)(w:World):Calls Tryz.prog 159 #[.agg #[.int .i64 gGroups,.int .i64 gBanks,.int .i64 gRows,.int .i64 gCols],.agg #[.int .i64 mOrder,.bool mHash],.int .i64 line] w fun e w'=>e=.returned (.tuple #[.agg #[.int .i64 (ifZ (mlB gGroups gBanks gRows gCols mOrder line) (mlK mOrder mHash (bankN gGroups gBanks gRows gCols) gRows gCols line)),.int .i64 (ifZ (mlB gGroups gBanks gRows gCols mOrder line) (mlR mOrder (bankN gGroups gBanks gRows gCols) gRows gCols line)),.int .i64 (ifZ (mlB gGroups gBanks gRows gCols mOrder line) (mlC mOrder (bankN gGroups gBanks gRows gCols) gCols line))],.bool (mlB gGroups gBanks gRows gCols mOrder line)])∧Below w.heap.size w w':=by
 refine fnB (tb:=[(164,sMap),(36,sLine),(28,sBtw),(102,sBank)]) ⟨sMap_S,sLine_S,sBtwS_ok,sBank_S,trivial⟩ Tryz.func159 (@Eq.mpr _ _ (mlS_T gGroups gBanks gRows gCols mOrder mHash line) ?_) (HS.start w (fun _=>False)) (fun v ch' w' hk hs=>⟨by rw [hk],hs.below⟩)
 dsimp -zeta -proj -iota -eta -failIfUnchanged (etaStruct:=.none) only
 cases hg:geoB gGroups gBanks gRows gCols
 ·have hl:lineN gGroups gBanks gRows gCols=0:=(line_not hg).1
  have hok:mlB gGroups gBanks gRows gCols mOrder line=false:=by simp only [mlB,hg,Bool.false_and]
  have hz:btw line 0 (lineN gGroups gBanks gRows gCols-1)=false:=by rw [hl];simp [btw];omega
  have hr:rng (lineN gGroups gBanks gRows gCols-1):=by rw [hl];exact ⟨by omega,by omega⟩
  repeat' (first
   | with_reducible exact rfl
   | exact True.intro
   | with_reducible assumption
   | (with_reducible exact hr)
   | (simp only [hok];done)
   | (simp only [hok,ifZ];done)
   | (simp [hok,ifZ];done)
   | refine And.intro ?_ ?_
   | apply Exists.intro
   | (refine fun (h:@Eq Bool _ _)=>?_;exfalso;first | (simp [hg,hz] at h;done) | (simp [hg,hz] at h;omega))
   | intro _
   | omega
   | exact rfl)
 ·have hf:=geo_facts hg
  have hbk:=geo_bank hg
  have hb:bankN gGroups gBanks gRows gCols=gGroups*gBanks:=by simp [bankN,hg]
  rw [← hb] at hbk
  have hl:lineN gGroups gBanks gRows gCols=bankN gGroups gBanks gRows gCols*gRows*gCols:=line_row hg
  have hlb:=line_bd gGroups gBanks gRows gCols
  have hr:rng (lineN gGroups gBanks gRows gCols-1):=⟨by omega,by omega⟩
  cases ho:btw mOrder 0 2
  ·have hok:mlB gGroups gBanks gRows gCols mOrder line=false:=by simp only [mlB,ho,Bool.false_and,Bool.and_false]
   repeat' (first
    | with_reducible exact rfl
    | exact True.intro
    | with_reducible assumption
    | (with_reducible exact hr)
    | (simp [hok,ifZ];done)
    | refine And.intro ?_ ?_
    | apply Exists.intro
    | (refine fun (h:@Eq Bool _ _)=>?_;exfalso;first | (simp [hg,ho] at h;done) | (simp [hg,ho] at h;omega))
    | intro _
    | omega
    | exact rfl)
  ·cases hz:btw line 0 (lineN gGroups gBanks gRows gCols-1)
   ·have hok:mlB gGroups gBanks gRows gCols mOrder line=false:=by simp only [mlB,hz,Bool.and_false]
    repeat' (first
     | with_reducible exact rfl
     | exact True.intro
     | with_reducible assumption
     | (with_reducible exact hr)
     | (simp [hok,ifZ];done)
     | refine And.intro ?_ ?_
     | apply Exists.intro
     | (refine fun (h:@Eq Bool _ _)=>?_;exfalso;first | (simp [hg,ho,hz] at h;done) | (simp [hg,ho,hz] at h;omega))
     | intro _
     | omega
     | exact rfl)
   ·have hok:mlB gGroups gBanks gRows gCols mOrder line=true:=by simp only [mlB,hg,ho,hz,Bool.and_true]
    have hz2:=btw_facts' hz
    have ho2:=btw_facts' ho
    rw [hl] at hz2
    obtain ⟨z1,z2⟩:=hz2
    obtain ⟨_,_,⟨r1,r2⟩,⟨k1,k2⟩⟩:=hf
    obtain ⟨n1,n2⟩:=hbk
    have zz:line≤1024:=by omega
    have q1:0≤line / gCols∧line / gCols≤1024:=⟨Int.ediv_nonneg z1 (by omega),by have:=Int.ediv_le_self gCols z1;omega⟩
    have q2:0≤line / bankN gGroups gBanks gRows gCols∧line / bankN gGroups gBanks gRows gCols≤1024:=⟨Int.ediv_nonneg z1 (by omega),by have:=Int.ediv_le_self (bankN gGroups gBanks gRows gCols) z1;omega⟩
    have hin:∀ h,_:=fun h=>ml_in (od:=mOrder) (h:=h) ⟨n1,n2⟩ ⟨r1,r2⟩ ⟨k1,k2⟩ z1 (by omega)
    have hp:=(hin false).1
    have hw:=(hin false).2
    clear hin hlb
    have hcs:mOrder=0∨mOrder=1∨mOrder=2:=by omega
    rcases hcs with rfl | rfl | rfl <;> cases mHash
    all_goals simp only [mlK,mlP,mlR,ieq,beq_self_eq_true,if_true,reduceCtorEq,Bool.false_eq_true,if_false,Int.reduceBEq] at hp hw
    all_goals
     repeat' (first
      | with_reducible exact rfl
      | exact True.intro
      | with_reducible assumption
      | (with_reducible exact hr)
      | (show divC _ _;exact ⟨by omega,by omega,by omega⟩)
      | (show rng _;exact ⟨by omega,by omega⟩)
      | (simp [hok,ifZ,mlK,mlP,mlR,mlC,ieq];done)
      | refine And.intro ?_ ?_
      | apply Exists.intro
      | (refine fun (h:@Eq Bool _ _)=>?_;exfalso;first | (simp [hg,ho,hz] at h;done) | (simp [hg,ho,hz] at h;omega))
      | intro _
      | omega
      | exact rfl)
def sMl:Sm:=fun args ch kk =>
 match args with
 | [.a (.agg [c0,c1,c2,c3]),.a (.agg [c4,c5]),.a (.c c6)] =>
  match ints [c0,c1,c2,c3,c4,c6],bools [c5] with
  | some [gGroups,gBanks,gRows,gCols,mOrder,line],some [mHash]=>kk (.tup [.agg [.int (ifZ (mlB gGroups gBanks gRows gCols mOrder line) (mlK mOrder mHash (bankN gGroups gBanks gRows gCols) gRows gCols line)),.int (ifZ (mlB gGroups gBanks gRows gCols mOrder line) (mlR mOrder (bankN gGroups gBanks gRows gCols) gRows gCols line)),.int (ifZ (mlB gGroups gBanks gRows gCols mOrder line) (mlC mOrder (bankN gGroups gBanks gRows gCols) gCols line))],.c (.bool (mlB gGroups gBanks gRows gCols mOrder line))]) ch []
  | _,_=>False
 | _=>False
theorem sMl_ok {f:FuncId}(hc:∀ args w,(callFunc f args).run Tryz.prog w=.ok (.enter f args) w)(h:∀ (gGroups:Int) (gBanks:Int) (gRows:Int) (gCols:Int) (mOrder:Int) (mHash:Bool) (line:Int) (w:World),Calls Tryz.prog f #[.agg #[.int .i64 gGroups,.int .i64 gBanks,.int .i64 gRows,.int .i64 gCols],.agg #[.int .i64 mOrder,.bool mHash],.int .i64 line] w fun e w'=>e=.returned (.tuple #[.agg #[.int .i64 (ifZ (mlB gGroups gBanks gRows gCols mOrder line) (mlK mOrder mHash (bankN gGroups gBanks gRows gCols) gRows gCols line)),.int .i64 (ifZ (mlB gGroups gBanks gRows gCols mOrder line) (mlR mOrder (bankN gGroups gBanks gRows gCols) gRows gCols line)),.int .i64 (ifZ (mlB gGroups gBanks gRows gCols mOrder line) (mlC mOrder (bankN gGroups gBanks gRows gCols) gCols line))],.bool (mlB gGroups gBanks gRows gCols mOrder line)])∧Below w.heap.size w w'):SmOK Tryz.prog f sMl:=by
 refine smB hc fun args ch kk w X h0 hs=>?_
 unfold sMl at h0
 split at h0
 ·rename_i c0 c1 c2 c3 c4 c5 c6
  split at h0
  ·rename_i gGroups gBanks gRows gCols mOrder line mHash hi hb
   obtain ⟨ec0,hi⟩:=ints_cons hi
   obtain ⟨ec1,hi⟩:=ints_cons hi
   obtain ⟨ec2,hi⟩:=ints_cons hi
   obtain ⟨ec3,hi⟩:=ints_cons hi
   obtain ⟨ec4,hi⟩:=ints_cons hi
   obtain ⟨ec6,hi⟩:=ints_cons hi
   obtain ⟨ec5,hb⟩:=bools_cons hb
   refine ⟨_,h0,?_⟩
   simp only [List.map_cons,List.map_nil,den_a,den_c,SA.den,den_sl,ec0,ec1,ec2,ec3,ec4,ec6,ec5]
   exact h gGroups gBanks gRows gCols mOrder mHash line w
  ·exact h0.elim
 ·exact h0.elim
theorem sMl_ok_mlI:SmOK Tryz.prog 160 sMl:=sMl_ok Tryz.call160 (fun gGroups gBanks gRows gCols mOrder mHash line w=>mlI_any gGroups gBanks gRows gCols mOrder mHash line w)
theorem sMl_ok_mlS:SmOK Tryz.prog 159 sMl:=sMl_ok Tryz.call159 (fun gGroups gBanks gRows gCols mOrder mHash line w=>mlS_any gGroups gBanks gRows gCols mOrder mHash line w)
end Go.Proofs.YtmnccapnjphmfaaGreat
