/-
  FnExactStoredAddr: a part of the walk (merged and squeezed by program: SxPrZ).
-/
import Derived.Test.YtmnccapnjphmfaaGreatZbbe
namespace Go.Proofs.YtmnccapnjphmfaaGreat
set_option linter.unusedVariables false
set_option linter.unusedSimpArgs false
open Go.RowKit
set_option maxRecDepth 100000
set_option maxHeartbeats 8000000
def rdyB (ln:Nat)(lg:Nat→Int)(an:Nat)(ag:Nat→Int)(G B R K:Int):Bool:=geoB G B R K&&ieq (ln:Int) (9*(bankN G B R K+1))&&decide ((an:Int)≤4)&&allB ln (fun j=>btw (lg j) (-1) 1000000&&((decide ((j:Int) % 9+1≤5) == decide ((j:Int) / 9<bankN G B R K)) || ieq (lg j) (-1)))&&allB an (fun j=>btw (ag j) 0 1000000&&!(decide (0<j)&&decide (ag j≤ag (j-1))))
theorem rdyI_T (lo:Option Addr)(ln lc:Nat)(lg:Nat→Int)(ao:Option Addr)(an ac:Nat)(ag:Nat→Int)(G B R K:Int):(exFn Tryz.prog {tb:=[(132,sGeo),(133,sBank)],L:=[(4,sryLIw lo ln lc lg ao an ac ag G B R K),(11,sryAIw lo ln lc lg ao an ac ag G B R K)]} 400 Tryz.f63 ([.a (.agg [.int G,.int B,.int R,.int K]),.a (.agg [.sl 0 lo ln lc,.sl 1 ao an ac])]) ([.row ⟨false,lo,0,1,ln,0,[fun i=>.int (lg i)]⟩,.row ⟨false,ao,0,1,an,0,[fun i=>.int (ag i)]⟩]) (fun y_ _=>y_.den=.bool (rdyB ln lg an ag G B R K)))=(
 (fun b:Value=>(fun c:Value=>(fun d:Value=>(fun g:Value=>(fun h:Int=>(fun j:Bool=>(fun k:Value=>(fun l:Value=>(fun m:Value=>(fun n:List SC=>(fun o:List SC=>(fun p:Value=>(fun q:Value=>(fun r:Value=>(fun s:Bool=>(fun t:Ch=>(fun u:Ch=>(fun v:Value=>(fun w:Value=>(fun x:Bool=>(fun y:Value=>∀ z C:Nat,(fun D:Value=>z=z∧True∧(j=false→C=C∧z=z∧True∧rng (h+(1:Int))∧rng ((9:Int)*(h+(1:Int)))∧(x=false→C=C∧(s=true→c=m)∧(s=false→C=C∧∃ E F:Nat,([r,q,Wp z 0,D,c,b,b,b,b,b,b,r,Wb (geoB G B R K),Wb j,c,D,g,l,r,Wi h,p,w,y,y,c,Wp C 1,d,k,v,c,D,g,l,Wi 0,b,b,b,b,b,b,b,b,b,b,b,b,b,b,b,b,b,b,b,b,b,b,b,b,b,b,b,b,b,b,b,b,b,b,b,b,b,b,b,b,b,b,b,b,b,b,b,b]=[r,q,Wp E 0,Wp F 0,c,b,b,b,b,b,b,r,Wb (geoB G B R K),Wb j,c,D,g,l,r,Wi h,p,w,y,y,c,Wp C 1,d,k,v,c,D,g,l,Wi 0,b,b,b,b,b,b,b,b,b,b,b,b,b,b,b,b,b,b,b,b,b,b,b,b,b,b,b,b,b,b,b,b,b,b,b,b,b,b,b,b,b,b,b,b,b,b,b,b]∧[u,t,Hc z 68 n,Hc C 82 o]=[u,t,Hc E 68 n,Hc F 82 o])∧(∀ H:Nat→Value,(allB ln (ryLIP lo ln lc lg ao an ac ag G B R K E F))=true→F=F∧∃ I J:Nat,([H 0,H 1,Wp E 0,Wp F 0,H 4,H 5,H 6,H 7,H 8,H 9,H 10,H 11,H 12,H 13,H 14,H 15,H 16,H 17,H 18,H 19,H 20,H 21,H 22,H 23,H 24,H 25,H 26,H 27,H 28,H 29,H 30,g,l,l,H 34,H 35,H 36,H 37,H 38,H 39,H 40,H 41,H 42,H 43,H 44,H 45,H 46,H 47,H 48,H 49,H 50,H 51,H 52,H 53,H 54,H 55,Wp F 1,d,k,Wi 0,H 60,H 61,H 62,H 63,H 64,H 65,H 66,H 67,H 68,H 69,H 70,H 71,H 72,H 73,H 74,H 75,H 76,H 77,H 78,H 79,H 80,H 81]=[H 0,H 1,Wp I 0,Wp J 0,H 4,H 5,H 6,H 7,H 8,H 9,H 10,H 11,H 12,H 13,H 14,H 15,H 16,H 17,H 18,H 19,H 20,H 21,H 22,H 23,H 24,H 25,H 26,H 27,H 28,H 29,H 30,g,l,l,H 34,H 35,H 36,H 37,H 38,H 39,H 40,H 41,H 42,H 43,H 44,H 45,H 46,H 47,H 48,H 49,H 50,H 51,H 52,H 53,H 54,H 55,Wp F 1,d,k,Wi 0,H 60,H 61,H 62,H 63,H 64,H 65,H 66,H 67,H 68,H 69,H 70,H 71,H 72,H 73,H 74,H 75,H 76,H 77,H 78,H 79,H 80,H 81]∧[u,t,Hc E 68 n,Hc F 82 o]=[u,t,Hc I 68 n,Hc J 82 o])∧(∀ M:Nat→Value,(allB an (ryAIP lo ln lc lg ao an ac ag G B R K I J))=true→(Wb true)=m)∧∀(M:Nat→Value) (N:Nat),N<an→(allB N (ryAIP lo ln lc lg ao an ac ag G B R K I J))=true→(ryAIP lo ln lc lg ao an ac ag G B R K I J N)=false→c=m)∧∀(H:Nat→Value) (I:Nat),I<ln→(allB I (ryLIP lo ln lc lg ao an ac ag G B R K E F))=true→(ryLIP lo ln lc lg ao an ac ag G B R K E F I)=false→c=m))∧(x=true→c=m))∧(j=true→c=m)) (Wp C 0)) (Wb x)) (((ln:Nat):Int) != ((9:Int)*(h+(1:Int))))) (Wi ((9:Int)*(h+(1:Int))))) (Wb s)) (Hr false lo 0 1 ln 0 [fun u=>Ci (lg u)])) (Hr false ao 0 1 an 0 [fun t=>Ci (ag t)])) (decide (((an:Nat):Int) > (4:Int)))) (Wa [Wi G,Wi B,Wi R,Wi K])) (Wa [g,d])) (Wi (h+(1:Int)))) [Cs 0 lo ln lc,Cs 1 ao an ac]) [Ci G,Ci B,Ci R,Ci K]) (Wb (rdyB ln lg an ag G B R K))) (Wi ((ln:Nat):Int))) (Wi ((an:Nat):Int))) (! (geoB G B R K))) (bankN G B R K)) (Ws lo ln lc)) (Ws ao an ac)) (Wb false)) (Wu [])):=by kernel_rfl
theorem rdyI_any (lo:Option Addr)(ln lc:Nat)(lg:Nat→Int)(ao:Option Addr)(an ac:Nat)(ag:Nat→Int)(G B R K:Int)(w:World)(hn:ln≤9223372036854775807∧an≤9223372036854775807)(h0:Row.sat w ⟨false,lo,0,1,ln,0,[fun i=>.int (lg i)]⟩)(h1:Row.sat w ⟨false,ao,0,1,an,0,[fun i=>.int (ag i)]⟩):Calls Tryz.prog 63 #[.agg #[.int .i64 G,.int .i64 B,.int .i64 R,.int .i64 K],.agg #[.slice lo ln lc,.slice ao an ac]] w fun e w'=>e=.returned (.bool (rdyB ln lg an ag G B R K))∧Below w.heap.size w w':=by
 refine fn_ok mixed (E:={tb:=[(132,sGeo),(133,sBank)],L:=[(4,sryLIw lo ln lc lg ao an ac ag G B R K),(11,sryAIw lo ln lc lg ao an ac ag G B R K)]}) ⟨sGeo_I,sBank_I,trivial⟩ Tryz.func63 (two_loops (by kernel_rfl) (by decide) (ryLIw_ok lo ln lc lg ao an ac ag G B R K hn.1 _) (ryAIw_ok lo ln lc lg ao an ac ag G B R K hn.2 _)) (@Eq.mpr _ _ (rdyI_T lo ln lc lg ao an ac ag G B R K) ?_) (HS.rows (fun _=>False) [⟨false,lo,0,1,ln,0,[fun i=>.int (lg i)]⟩,⟨false,ao,0,1,an,0,[fun i=>.int (ag i)]⟩] (by simpa using ⟨h0,h1⟩)) (fun v ch' w' hv hs=>⟨by rw [hv],hs.below⟩)
 dsimp -zeta -proj -iota -eta -failIfUnchanged (etaStruct:=.none) only
 clear h0 h1
 have hc1:allB ln (fun j=>btw (lg j) (-1) 1000000&&((decide ((j:Int) / 9<bankN G B R K) == btw ((j:Int) % 9+1) 1 5) || ieq (lg j) (-1)))=allB ln (fun j=>btw (lg j) (-1) 1000000&&((decide ((j:Int) % 9+1≤5) == decide ((j:Int) / 9<bankN G B R K)) || ieq (lg j) (-1))):=allB_congr fun j _=>by have e:btw ((j:Int) % 9+1) 1 5=decide ((j:Int) % 9+1≤5):=(by simp only [btw];rw [decide_eq_true (show (1:Int)≤(j:Int) % 9+1 by omega)];simp);rw [e,show ∀ a b:Bool,(a == b)=(b == a) from by decide]
 have hc2:allB an (fun j=>btw (ag j) 0 1000000&&!(decide (0<j)&&decide (ag j≤ag (j-1))))=allB an (fun j=>btw (ag j) 0 1000000&&!(decide (0<j)&&decide (ag j≤ag (j-1)))):=rfl
 cases hg:geoB G B R K
 ·have hok:rdyB ln lg an ag G B R K=false:=by simp [rdyB,hg]
  repeat' (first
   | with_reducible exact rfl
   | exact True.intro
   | with_reducible assumption
   | (simp only [hok];done)
   | refine And.intro ?_ ?_
   | apply Exists.intro
   | (refine fun (h:@Eq Bool _ _)=>?_;exfalso;first | (simp [hg] at h;done) | (simp [hg] at h;omega))
   | intro _
   | omega
   | exact rfl)
 ·have hb:=geo_bank hg
  have hbk:bankN G B R K=G*B:=by simp [bankN,hg]
  rw [← hbk] at hb
  obtain ⟨hb1,hb2⟩:=hb
  cases h1:ieq (ln:Int) (9*(bankN G B R K+1))
  all_goals have n1:=ieq_ne h1
  ·have hok:rdyB ln lg an ag G B R K=false:=by simp [rdyB,h1]
   repeat' (first
    | with_reducible exact rfl
    | exact True.intro
    | with_reducible assumption
    | (simp only [hok];done)
    | refine And.intro ?_ ?_
    | apply Exists.intro
    | (refine fun (h:@Eq Bool _ _)=>?_;exfalso;first | (simp [hg,h1,n1] at h;done) | (simp [hg,h1,n1] at h;omega))
    | intro _
    | omega
    | exact rfl)
  ·by_cases h2:(an:Int)≤4
   ·have hrd:rdyB ln lg an ag G B R K=(allB ln (fun j=>btw (lg j) (-1) 1000000&&((decide ((j:Int) % 9+1≤5) == decide ((j:Int) / 9<bankN G B R K)) || ieq (lg j) (-1)))&&allB an (fun j=>btw (ag j) 0 1000000&&!(decide (0<j)&&decide (ag j≤ag (j-1))))):=by simp [rdyB,hg,h1,h2]
    repeat' (first
     | with_reducible exact rfl
     | exact True.intro
     | with_reducible assumption
     | (intro g (ha_:allB ln _=true);have e1:allB ln (fun j=>btw (lg j) (-1) 1000000&&((decide ((j:Int) % 9+1≤5) == decide ((j:Int) / 9<bankN G B R K)) || ieq (lg j) (-1)))=true:=hc1.symm.trans ha_;clear ha_)
     | (intro g (ha_:allB an _=true);have e2:allB an (fun j=>btw (ag j) 0 1000000&&!(decide (0<j)&&decide (ag j≤ag (j-1))))=true:=hc2.symm.trans ha_;clear ha_)
     | (intro g j hj ha hP;have e0_:allB an (fun j=>btw (ag j) 0 1000000&&!(decide (0<j)&&decide (ag j≤ag (j-1))))=false:=hc2.symm.trans (allB_no (p:=fun j=>btw (ag j) 0 1000000&&!(decide (0<j)&&decide (ag j≤ag (j-1)))) hj hP);exact congrArg Value.bool (by rw [hrd,e0_,e1];rfl))
     | (intro g j hj ha hP;have e0_:allB ln (fun j=>btw (lg j) (-1) 1000000&&((decide ((j:Int) % 9+1≤5) == decide ((j:Int) / 9<bankN G B R K)) || ieq (lg j) (-1)))=false:=hc1.symm.trans (allB_no (p:=fun j=>btw (lg j) (-1) 1000000&&((decide ((j:Int) / 9<bankN G B R K) == btw ((j:Int) % 9+1) 1 5) || ieq (lg j) (-1))) hj hP);exact congrArg Value.bool (by rw [hrd,e0_];rfl))
     | (exact congrArg Value.bool (by rw [hrd,e1,e2];rfl))
     | refine And.intro ?_ ?_
     | apply Exists.intro
     | (refine fun (h:@Eq Bool _ _)=>?_;exfalso;first | (simp [hg,h1,n1,h2] at h;done) | (simp [hg,h1,n1,h2] at h;omega))
     | intro _
     | omega
     | exact rfl)
   ·have hok:rdyB ln lg an ag G B R K=false:=by simp [rdyB,h2]
    repeat' (first
     | with_reducible exact rfl
     | exact True.intro
     | with_reducible assumption
     | (simp only [hok];done)
     | refine And.intro ?_ ?_
     | apply Exists.intro
     | (refine fun (h:@Eq Bool _ _)=>?_;exfalso;first | (simp [hg,h1,n1,h2] at h;done) | (simp [hg,h1,n1,h2] at h;omega))
     | intro _
     | omega
     | exact rfl)
theorem rdyS_T (lo:Option Addr)(ln lc:Nat)(lg:Nat→Int)(ao:Option Addr)(an ac:Nat)(ag:Nat→Int)(G B R K:Int):(exFn Tryz.prog {tb:=[(101,sGeo),(102,sBank)],L:=[(4,sryLSw lo ln lc lg ao an ac ag G B R K),(9,sryASw lo ln lc lg ao an ac ag G B R K)]} 400 Tryz.f30 ([.a (.agg [.int G,.int B,.int R,.int K]),.a (.agg [.sl 0 lo ln lc,.sl 1 ao an ac])]) ([.row ⟨false,lo,0,1,ln,0,[fun i=>.int (lg i)]⟩,.row ⟨false,ao,0,1,an,0,[fun i=>.int (ag i)]⟩]) (fun y_ _=>y_.den=.bool (rdyB ln lg an ag G B R K)))=(
 (fun b:Value=>(fun c:Value=>(fun d:Int=>(fun g:Bool=>(fun h:Value=>(fun j:Value=>(fun k:List SC=>(fun l:List SC=>(fun m:Value=>(fun n:Value=>(fun o:Value=>(fun p:Bool=>(fun q:Ch=>(fun r:Ch=>(fun s:Value=>(fun t:Value=>(fun u:Bool=>(fun v:Value=>∀ w x:Nat,w=w∧True∧(g=false→x=x∧w=w∧True∧rng (d+(1:Int))∧rng ((9:Int)*(d+(1:Int)))∧(u=false→x=x∧(p=true→c=j)∧(p=false→∃ y z:Nat,([o,n,Wp w 0,Wp x 0,c,Wi 0,b,o,Wb (geoB G B R K),Wb g,c,Wp x 0,Ws lo ln lc,h,o,Wi d,m,t,v,v,c,Wp x 1,Ws ao an ac,Wi ((an:Nat):Int),s,c,b,b,b,b,b,b,b,b,b,b,b,b,b,b,b,b,b,b,b,b,b,b,b,b,b,b,b,b,b,b,b,b,b,b,b,b,b,b,b,b,b,b,b,b,b,b,b,b,b,b,b,b,b,b,b,b,b,b,b,b]=[o,n,Wp y 0,Wp z 0,c,Wi 0,b,o,Wb (geoB G B R K),Wb g,c,Wp x 0,Ws lo ln lc,h,o,Wi d,m,t,v,v,c,Wp x 1,Ws ao an ac,Wi ((an:Nat):Int),s,c,b,b,b,b,b,b,b,b,b,b,b,b,b,b,b,b,b,b,b,b,b,b,b,b,b,b,b,b,b,b,b,b,b,b,b,b,b,b,b,b,b,b,b,b,b,b,b,b,b,b,b,b,b,b,b,b,b,b,b,b]∧[r,q,Hc w 68 k,Hc x 82 l]=[r,q,Hc y 68 k,Hc z 82 l])∧(∀ C:Nat→Value,(allB ln (ryLSP lo ln lc lg ao an ac ag G B R K y z))=true→∃ D E:Nat,([C 0,C 1,Wp y 0,Wp z 0,C 4,h,Wi 0,C 7,C 8,C 9,C 10,C 11,C 12,C 13,C 14,C 15,C 16,C 17,C 18,C 19,C 20,C 21,C 22,C 23,C 24,C 25,C 26,C 27,C 28,C 29,C 30,C 31,C 32,C 33,C 34,C 35,C 36,C 37,C 38,C 39,C 40,C 41,C 42,C 43,C 44,C 45,C 46,C 47,C 48,C 49,C 50,C 51,C 52,C 53,C 54,C 55,C 56,C 57,C 58,C 59,C 60,C 61,C 62,C 63,C 64,C 65,C 66,C 67,C 68,C 69,C 70,C 71,C 72,C 73,C 74,C 75,C 76,C 77,C 78,C 79,C 80,C 81,C 82,C 83,C 84,C 85]=[C 0,C 1,Wp D 0,Wp E 0,C 4,h,Wi 0,C 7,C 8,C 9,C 10,C 11,C 12,C 13,C 14,C 15,C 16,C 17,C 18,C 19,C 20,C 21,C 22,C 23,C 24,C 25,C 26,C 27,C 28,C 29,C 30,C 31,C 32,C 33,C 34,C 35,C 36,C 37,C 38,C 39,C 40,C 41,C 42,C 43,C 44,C 45,C 46,C 47,C 48,C 49,C 50,C 51,C 52,C 53,C 54,C 55,C 56,C 57,C 58,C 59,C 60,C 61,C 62,C 63,C 64,C 65,C 66,C 67,C 68,C 69,C 70,C 71,C 72,C 73,C 74,C 75,C 76,C 77,C 78,C 79,C 80,C 81,C 82,C 83,C 84,C 85]∧[r,q,Hc y 68 k,Hc z 82 l]=[r,q,Hc D 68 k,Hc E 82 l])∧(∀ F:Nat→Value,(allB an (ryASP lo ln lc lg ao an ac ag G B R K D E))=true→(Wb true)=j)∧∀(F:Nat→Value) (H:Nat),H<an→(allB H (ryASP lo ln lc lg ao an ac ag G B R K D E))=true→(ryASP lo ln lc lg ao an ac ag G B R K D E H)=false→c=j)∧∀(C:Nat→Value) (D:Nat),D<ln→(allB D (ryLSP lo ln lc lg ao an ac ag G B R K y z))=true→(ryLSP lo ln lc lg ao an ac ag G B R K y z D)=false→c=j))∧(u=true→c=j))∧(g=true→c=j)) (Wb u)) (((ln:Nat):Int) != ((9:Int)*(d+(1:Int))))) (Wi ((9:Int)*(d+(1:Int))))) (Wb p)) (Hr false lo 0 1 ln 0 [fun r=>Ci (lg r)])) (Hr false ao 0 1 an 0 [fun q=>Ci (ag q)])) (decide (((an:Nat):Int) > (4:Int)))) (Wa [Wi G,Wi B,Wi R,Wi K])) (Wa [Ws lo ln lc,Ws ao an ac])) (Wi (d+(1:Int)))) [Cs 0 lo ln lc,Cs 1 ao an ac]) [Ci G,Ci B,Ci R,Ci K]) (Wb (rdyB ln lg an ag G B R K))) (Wi ((ln:Nat):Int))) (! (geoB G B R K))) (bankN G B R K)) (Wb false)) (Wu [])):=by kernel_rfl
theorem rdyS_any (lo:Option Addr)(ln lc:Nat)(lg:Nat→Int)(ao:Option Addr)(an ac:Nat)(ag:Nat→Int)(G B R K:Int)(w:World)(hn:ln≤9223372036854775807∧an≤9223372036854775807)(h0:Row.sat w ⟨false,lo,0,1,ln,0,[fun i=>.int (lg i)]⟩)(h1:Row.sat w ⟨false,ao,0,1,an,0,[fun i=>.int (ag i)]⟩):Calls Tryz.prog 30 #[.agg #[.int .i64 G,.int .i64 B,.int .i64 R,.int .i64 K],.agg #[.slice lo ln lc,.slice ao an ac]] w fun e w'=>e=.returned (.bool (rdyB ln lg an ag G B R K))∧Below w.heap.size w w':=by
 refine fn_ok mixed (E:={tb:=[(101,sGeo),(102,sBank)],L:=[(4,sryLSw lo ln lc lg ao an ac ag G B R K),(9,sryASw lo ln lc lg ao an ac ag G B R K)]}) ⟨sGeo_S,sBank_S,trivial⟩ Tryz.func30 (two_loops (by kernel_rfl) (by decide) (ryLSw_ok lo ln lc lg ao an ac ag G B R K hn.1 _) (ryASw_ok lo ln lc lg ao an ac ag G B R K hn.2 _)) (@Eq.mpr _ _ (rdyS_T lo ln lc lg ao an ac ag G B R K) ?_) (HS.rows (fun _=>False) [⟨false,lo,0,1,ln,0,[fun i=>.int (lg i)]⟩,⟨false,ao,0,1,an,0,[fun i=>.int (ag i)]⟩] (by simpa using ⟨h0,h1⟩)) (fun v ch' w' hv hs=>⟨by rw [hv],hs.below⟩)
 dsimp -zeta -proj -iota -eta -failIfUnchanged (etaStruct:=.none) only
 clear h0 h1
 have hc1:allB ln (fun j=>btw (lg j) (-1) 1000000&&((decide ((j:Int) % 9+1≤5) == decide ((j:Int) / 9<bankN G B R K)) || ieq (lg j) (-1)))=allB ln (fun j=>btw (lg j) (-1) 1000000&&((decide ((j:Int) % 9+1≤5) == decide ((j:Int) / 9<bankN G B R K)) || ieq (lg j) (-1))):=rfl
 have hc2:allB an (fun j=>btw (ag j) 0 1000000&&!(decide (0<j)&&decide (ag j≤ag (j-1))))=allB an (fun j=>btw (ag j) 0 1000000&&!(decide (0<j)&&decide (ag j≤ag (j-1)))):=rfl
 cases hg:geoB G B R K
 ·have hok:rdyB ln lg an ag G B R K=false:=by simp [rdyB,hg]
  repeat' (first
   | with_reducible exact rfl
   | exact True.intro
   | with_reducible assumption
   | (simp only [hok];done)
   | refine And.intro ?_ ?_
   | apply Exists.intro
   | (refine fun (h:@Eq Bool _ _)=>?_;exfalso;first | (simp [hg] at h;done) | (simp [hg] at h;omega))
   | intro _
   | omega
   | exact rfl)
 ·have hb:=geo_bank hg
  have hbk:bankN G B R K=G*B:=by simp [bankN,hg]
  rw [← hbk] at hb
  obtain ⟨hb1,hb2⟩:=hb
  cases h1:ieq (ln:Int) (9*(bankN G B R K+1))
  all_goals have n1:=ieq_ne h1
  ·have hok:rdyB ln lg an ag G B R K=false:=by simp [rdyB,h1]
   repeat' (first
    | with_reducible exact rfl
    | exact True.intro
    | with_reducible assumption
    | (simp only [hok];done)
    | refine And.intro ?_ ?_
    | apply Exists.intro
    | (refine fun (h:@Eq Bool _ _)=>?_;exfalso;first | (simp [hg,h1,n1] at h;done) | (simp [hg,h1,n1] at h;omega))
    | intro _
    | omega
    | exact rfl)
  ·by_cases h2:(an:Int)≤4
   ·have hrd:rdyB ln lg an ag G B R K=(allB ln (fun j=>btw (lg j) (-1) 1000000&&((decide ((j:Int) % 9+1≤5) == decide ((j:Int) / 9<bankN G B R K)) || ieq (lg j) (-1)))&&allB an (fun j=>btw (ag j) 0 1000000&&!(decide (0<j)&&decide (ag j≤ag (j-1))))):=by simp [rdyB,hg,h1,h2]
    repeat' (first
     | with_reducible exact rfl
     | exact True.intro
     | with_reducible assumption
     | (intro g (ha_:allB ln _=true);have e1:allB ln (fun j=>btw (lg j) (-1) 1000000&&((decide ((j:Int) % 9+1≤5) == decide ((j:Int) / 9<bankN G B R K)) || ieq (lg j) (-1)))=true:=hc1.symm.trans ha_;clear ha_)
     | (intro g (ha_:allB an _=true);have e2:allB an (fun j=>btw (ag j) 0 1000000&&!(decide (0<j)&&decide (ag j≤ag (j-1))))=true:=hc2.symm.trans ha_;clear ha_)
     | (intro g j hj ha hP;have e0_:allB an (fun j=>btw (ag j) 0 1000000&&!(decide (0<j)&&decide (ag j≤ag (j-1))))=false:=hc2.symm.trans (allB_no (p:=fun j=>btw (ag j) 0 1000000&&!(decide (0<j)&&decide (ag j≤ag (j-1)))) hj hP);exact congrArg Value.bool (by rw [hrd,e0_,e1];rfl))
     | (intro g j hj ha hP;have e0_:allB ln (fun j=>btw (lg j) (-1) 1000000&&((decide ((j:Int) % 9+1≤5) == decide ((j:Int) / 9<bankN G B R K)) || ieq (lg j) (-1)))=false:=hc1.symm.trans (allB_no (p:=fun j=>btw (lg j) (-1) 1000000&&((decide ((j:Int) % 9+1≤5) == decide ((j:Int) / 9<bankN G B R K)) || ieq (lg j) (-1))) hj hP);exact congrArg Value.bool (by rw [hrd,e0_];rfl))
     | (exact congrArg Value.bool (by rw [hrd,e1,e2];rfl))
     | refine And.intro ?_ ?_
     | apply Exists.intro
     | (refine fun (h:@Eq Bool _ _)=>?_;exfalso;first | (simp [hg,h1,n1,h2] at h;done) | (simp [hg,h1,n1,h2] at h;omega))
     | intro _
     | omega
     | exact rfl)
   ·have hok:rdyB ln lg an ag G B R K=false:=by simp [rdyB,h2]
    repeat' (first
     | with_reducible exact rfl
     | exact True.intro
     | with_reducible assumption
     | (simp only [hok];done)
     | refine And.intro ?_ ?_
     | apply Exists.intro
     | (refine fun (h:@Eq Bool _ _)=>?_;exfalso;first | (simp [hg,h1,n1,h2] at h;done) | (simp [hg,h1,n1,h2] at h;omega))
     | intro _
     | omega
     | exact rfl)
def sRdOk:Sm:=fun args ch kk =>
 match args with
 | [.a (.agg [c0,c1,c2,c3]),.a (.agg [x,y])] =>
  match ints [c0,c1,c2,c3] with
  | some [G,B,R,K]=>rdn ch x fun n1 f1=>rdn ch y fun n2 f2=>(lenC n1∧lenC n2)∧kk (.a (.c (.bool (rdyB n1 f1 n2 f2 G B R K)))) ch []
  | _=>False
 | _=>False
theorem sRdOk_I:SmOK Tryz.prog 63 sRdOk:=by
 refine smB Tryz.call63 fun args ch kk w X h0 hs=>?_
 unfold sRdOk at h0
 split at h0
 ·split at h0
  ·rename_i G B R K hi
   obtain ⟨qG,hi⟩:=ints_cons hi
   obtain ⟨qB,hi⟩:=ints_cons hi
   obtain ⟨qR,hi⟩:=ints_cons hi
   obtain ⟨qK,hi⟩:=ints_cons hi
   obtain ⟨ao1,n1,c1,f1,em1,hr1,h0⟩:=rdn_ok h0 hs
   obtain ⟨ao2,n2,c2,f2,em2,hr2,h0⟩:=rdn_ok h0 hs
   obtain ⟨hn,h0⟩:=h0
   refine ⟨_,h0,?_⟩
   simp only [List.map_cons,List.map_nil,den_a,den_c,SA.den,em1,em2,qG,qB,qR,qK]
   exact rdyI_any ao1 n1 c1 f1 ao2 n2 c2 f2 G B R K w hn hr1 hr2
  ·exact h0.elim
 ·exact h0.elim
theorem sRdOk_S:SmOK Tryz.prog 30 sRdOk:=by
 refine smB Tryz.call30 fun args ch kk w X h0 hs=>?_
 unfold sRdOk at h0
 split at h0
 ·split at h0
  ·rename_i G B R K hi
   obtain ⟨qG,hi⟩:=ints_cons hi
   obtain ⟨qB,hi⟩:=ints_cons hi
   obtain ⟨qR,hi⟩:=ints_cons hi
   obtain ⟨qK,hi⟩:=ints_cons hi
   obtain ⟨ao1,n1,c1,f1,em1,hr1,h0⟩:=rdn_ok h0 hs
   obtain ⟨ao2,n2,c2,f2,em2,hr2,h0⟩:=rdn_ok h0 hs
   obtain ⟨hn,h0⟩:=h0
   refine ⟨_,h0,?_⟩
   simp only [List.map_cons,List.map_nil,den_a,den_c,SA.den,em1,em2,qG,qB,qR,qK]
   exact rdyS_any ao1 n1 c1 f1 ao2 n2 c2 f2 G B R K w hn hr1 hr2
  ·exact h0.elim
 ·exact h0.elim
end Go.Proofs.YtmnccapnjphmfaaGreat
