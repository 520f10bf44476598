/-
  FnExactStoredAddr: a part of the walk (merged and squeezed by program: SxPrL).
-/
import Derived.Test.YtmnccapnjphmfaaGreatZbbh
namespace Go.Proofs.YtmnccapnjphmfaaGreat
set_option linter.unusedVariables false
set_option linter.unusedSimpArgs false
open Go.RowKit
set_option maxRecDepth 100000
set_option maxHeartbeats 8000000
def rkqI (ao:Option Addr)(n c:Nat)(u:Nat→Nat→Int)(v:Nat→Nat→Bool)(pw:Int)(G B R K:Int):LSm:=fun ts ch kk=>rows16 R∧srkIw ao n c u v pw G B R K ts ch kk
theorem rkqI_ok (ao:Option Addr)(n c:Nat)(u:Nat→Nat→Int)(v:Nat→Nat→Bool)(pw:Int)(G B R K:Int)(hn:n≤9223372036854775807)(X:Cx):LoopOK Tryz.prog X (theLoop Tryz.f62 0) (rkqI ao n c u v pw G B R K):=by
 rintro ts ch kk a w ⟨hR,h⟩ hT hd hs
 exact rkIw_ok ao n c u v pw G B R K hn hR X ts ch kk a w h hT hd hs
theorem rankI_T (ao:Option Addr)(n c:Nat)(u:Nat→Nat→Int)(v:Nat→Nat→Bool)(pw:Int)(G B R K:Int):(exFn Tryz.prog {tb:=[(132,sGeo),(133,sBank),(61,sBtw),(134,sOpB)],L:=[(4,rkqI ao n c u v pw G B R K)]} 400 Tryz.f62 ([.a (.agg [.int G,.int B,.int R,.int K]),.a (.agg [.sl 0 ao n c,.int pw])]) ([.row ⟨false,ao,0,2,n,0,flK u v 0 [false,true]⟩]) (fun y_ _=>y_.den=.bool (rkB n u v pw G B R K)))=(
 (fun b:Value=>(fun d:Value=>(fun g:Value=>(fun h:Int=>(fun j:Bool=>(fun k:Value=>(fun l:Value=>(fun m:Bool=>(fun o:Value=>(fun p:Value=>(fun q:Value=>(fun r:Bool=>(fun s:Value=>(fun t:List (Nat→SC)=>(fun w:Ch=>∀ x y:Nat,(fun z:Value=>x=x∧True∧(j=false→y=y∧x=x∧True∧(r=false→y=y∧True∧(m=true→d=l)∧(m=false→y=y∧rows16 R∧∃ C D:Nat,([q,Wa [g,Wi pw],Wp x 0,z,d,b,b,q,Wb (geoB G B R K),Wb j,d,z,g,k,q,Wi h,s,s,d,Wp y 1,Wi pw,o,p,d,z,g,k,Wi 0,b,b,b,b,b,b,b,b,b,b,b,b,b,b,b,b,b,b,b,b,b,b,b,b,b,b,b,b,b,b]=[q,Wa [g,Wi pw],Wp C 0,Wp D 0,d,b,b,q,Wb (geoB G B R K),Wb j,d,z,g,k,q,Wi h,s,s,d,Wp y 1,Wi pw,o,p,d,z,g,k,Wi 0,b,b,b,b,b,b,b,b,b,b,b,b,b,b,b,b,b,b,b,b,b,b,b,b,b,b,b,b,b,b]∧[w,Hc x 68 [Ci G,Ci B,Ci R,Ci K],Hc y 81 [Cs 0 ao n c,Ci pw]]=[w,Hc C 68 [Ci G,Ci B,Ci R,Ci K],Hc D 81 [Cs 0 ao n c,Ci pw]])∧(∀ E:Nat→Value,(allB n (rkIP ao n c u v pw G B R K C D))=true→D=D∧((pw != (2:Int))=false→D=D∧∃(F:Nat→Nat→Int) (H:Nat→Nat→Bool),(ao=ao∧n=n∧t=[fun I=>Cb (H 0 I),fun I=>Ci (F 1 I)])∧cap1C n∧∀(I:Option Addr) (J M:Nat) (N:Nat→Int),opN J n H→(Wb (((J:Nat):Int) == (0:Int)))=l)∧((pw != (2:Int))=true→(Wb true)=l))∧∀(E:Nat→Value) (F:Nat),F<n→(allB F (rkIP ao n c u v pw G B R K C D))=true→(rkIP ao n c u v pw G B R K C D F)=false→d=l))∧(r=true→d=l))∧(j=true→d=l)) (Wp y 0)) (Hr false ao 0 2 n 0 t)) [fun t=>Cb (v 0 t),fun t=>Ci (u 1 t)]) (Wb r)) (((n:Nat):Int) != h)) (Wa [Wi G,Wi B,Wi R,Wi K])) (Wb m)) (Wb (btw pw (0:Int) (2:Int)))) (! (btw pw (0:Int) (2:Int)))) (Wb (rkB n u v pw G B R K))) (Wi ((n:Nat):Int))) (! (geoB G B R K))) (bankN G B R K)) (Ws ao n c)) (Wb false)) (Wu [])):=by kernel_rfl
theorem rankI_any (ao:Option Addr)(n c:Nat)(u:Nat→Nat→Int)(v:Nat→Nat→Bool)(pw:Int)(G B R K:Int)(w:World)(hn:n≤1048576)(h0:Row.sat w ⟨false,ao,0,2,n,0,flK u v 0 [false,true]⟩):Calls Tryz.prog 62 #[.agg #[.int .i64 G,.int .i64 B,.int .i64 R,.int .i64 K],.agg #[.slice ao n c,.int .i64 pw]] w fun e w'=>e=.returned (.bool (rkB n u v pw G B R K))∧Below w.heap.size w w':=by
 refine fn_ok mixed (E:={tb:=[(132,sGeo),(133,sBank),(61,sBtw),(134,sOpB)],L:=[(4,rkqI ao n c u v pw G B R K)]}) ⟨sGeo_I,sBank_I,sBtwI_ok,sOpB_ok,trivial⟩ Tryz.func62 (one_loop (by kernel_rfl) (by kernel_rfl) (rkqI_ok ao n c u v pw G B R K (by omega) _)) (@Eq.mpr _ _ (rankI_T ao n c u v pw G B R K) ?_) (HS.rows (fun _=>False) [⟨false,ao,0,2,n,0,flK u v 0 [false,true]⟩] (by simpa using h0)) (fun v ch' w' hv hs=>⟨by rw [hv],hs.below⟩)
 dsimp -zeta -proj -iota -eta -failIfUnchanged (etaStruct:=.none) only
 clear h0
 have allI:∀ {m:Nat},opN m n v→ieq pw 2=true→allB n (fun j=>btw (u 1 j) 0 (R-1)&&(v 0 j || ieq (u 1 j) 0))=true→allB n (fun j=>btw (u 1 j) 0 (R-1)&&(v 0 j || ieq (u 1 j) 0)&&!(v 0 j&&ieq pw 2))=ieq (m:Int) 0:=by
  intro m hm hpw ha
  by_cases hm0:m=0
  ·have h1:=hm.1.1 hm0
   subst hm0
   show _=true
   refine (allB_congr fun j hj=>?_).trans ha
   have:=allB_get h1 hj
   simp only [Bool.not_eq_true'] at this
   simp [this]
  ·have h1:allB n (fun i=>!v 0 i)=false:=by
    cases h:allB n (fun i=>!v 0 i)
    ·rfl
    ·exact absurd (hm.1.2 h) hm0
   obtain ⟨k,hk,hkv⟩:=allB_at h1
   rw [allB_no (j:=k) hk (by simp only [Bool.not_eq_false'] at hkv;simp [hkv,hpw])]
   have:¬ (m:Int)=0:=by omega
   simp [ieq,hm0]
 have allJ:ieq pw 2=false→allB n (fun j=>btw (u 1 j) 0 (R-1)&&(v 0 j || ieq (u 1 j) 0))=true→allB n (fun j=>btw (u 1 j) 0 (R-1)&&(v 0 j || ieq (u 1 j) 0)&&!(v 0 j&&ieq pw 2))=true:=by
  intro hpw ha
  exact (allB_congr fun j hj=>by simp [hpw]).trans ha
 have allN:∀ j,j<n→(btw (u 1 j) 0 (R-1)&&(v 0 j || ieq (u 1 j) 0))=false→allB n (fun j=>btw (u 1 j) 0 (R-1)&&(v 0 j || ieq (u 1 j) 0)&&!(v 0 j&&ieq pw 2))=false:=by
  intro k hk hkv
  exact allB_no (j:=k) hk (by simp only [hkv,Bool.false_and])
 cases hg:geoB G B R K
 ·have hok:rkB n u v pw G B R K=false:=by simp [rkB,hg]
  repeat' (first
   | with_reducible exact rfl
   | exact True.intro
   | with_reducible assumption
   | (simp only [hok];done)
   | refine And.intro ?_ ?_
   | apply Exists.intro
   | (refine fun (h:@Eq Bool _ _)=>?_;exfalso;first | (simp [hg] at h;done) | (simp [hg] at h;omega))
   | intro _
   | omega
   | exact rfl)
 ·have hf:=geo_facts hg
  have hb:=geo_bank hg
  cases h1:ieq (n:Int) (bankN G B R K)
  all_goals have n1:=ieq_ne h1
  ·have hok:rkB n u v pw G B R K=false:=by simp [rkB,h1]
   repeat' (first
    | with_reducible exact rfl
    | exact True.intro
    | with_reducible assumption
    | (simp only [hok];done)
    | refine And.intro ?_ ?_
    | apply Exists.intro
    | (refine fun (h:@Eq Bool _ _)=>?_;exfalso;first | (simp [hg,h1,n1] at h;done) | (simp [hg,h1,n1] at h;omega))
    | intro _
    | omega
    | exact rfl)
  ·cases h2:btw pw 0 2
   ·have hok:rkB n u v pw G B R K=false:=by simp [rkB,h2]
    repeat' (first
     | with_reducible exact rfl
     | exact True.intro
     | with_reducible assumption
     | (simp only [hok];done)
     | refine And.intro ?_ ?_
     | apply Exists.intro
     | (refine fun (h:@Eq Bool _ _)=>?_;exfalso;first | (simp [hg,h1,n1,h2] at h;done) | (simp [hg,h1,n1,h2] at h;omega))
     | intro _
     | omega
     | exact rfl)
   ·have hrk:rkB n u v pw G B R K=allB n (fun j=>btw (u 1 j) 0 (R-1)&&(v 0 j || ieq (u 1 j) 0)&&!(v 0 j&&ieq pw 2)):=by simp [rkB,hg,h1,h2]
    cases h3:ieq pw 2
    all_goals have n3:=ieq_ne h3
    ·rw [hrk]
     repeat' (first
      | with_reducible exact rfl
      | exact True.intro
      | with_reducible assumption
      | (intro g (ha:allB n _=true);have ha2:allB n (fun j=>btw (u 1 j) 0 (R-1)&&(v 0 j || ieq (u 1 j) 0))=true:=ha;clear ha)
      | (rw [allJ h3 ha2];done)
      | (intro g j hj ha hP;replace ha:=allN j hj hP;rw [ha])
      | refine And.intro ?_ ?_
      | apply Exists.intro
      | (refine fun (h:@Eq Bool _ _)=>?_;exfalso;first | (simp [hg,h1,n1,h2,h3,n3] at h;done) | (simp [hg,h1,n1,h2,h3,n3] at h;omega))
      | intro _
      | omega
      | exact rfl)
    ·rw [hrk]
     repeat' (first
      | with_reducible exact rfl
      | exact True.intro
      | with_reducible assumption
      | (intro g (ha:allB n _=true);have ha2:allB n (fun j=>btw (u 1 j) 0 (R-1)&&(v 0 j || ieq (u 1 j) 0))=true:=ha;clear ha)
      | (intro ro m cap f hm;rw [allI hm h3 ha2])
      | (intro g j hj ha hP;replace ha:=allN j hj hP;rw [ha])
      | refine And.intro ?_ ?_
      | apply Exists.intro
      | (refine fun (h:@Eq Bool _ _)=>?_;exfalso;first | (simp [hg,h1,n1,h2,h3,n3] at h;done) | (simp [hg,h1,n1,h2,h3,n3] at h;omega))
      | intro _
      | omega
      | exact rfl)
def rkqS (ao:Option Addr)(n c:Nat)(u:Nat→Nat→Int)(v:Nat→Nat→Bool)(pw:Int)(G B R K:Int):LSm:=fun ts ch kk=>rows16 R∧srkSw ao n c u v pw G B R K ts ch kk
theorem rkqS_ok (ao:Option Addr)(n c:Nat)(u:Nat→Nat→Int)(v:Nat→Nat→Bool)(pw:Int)(G B R K:Int)(hn:n≤9223372036854775807)(X:Cx):LoopOK Tryz.prog X (theLoop Tryz.f29 0) (rkqS ao n c u v pw G B R K):=by
 rintro ts ch kk a w ⟨hR,h⟩ hT hd hs
 exact rkSw_ok ao n c u v pw G B R K hn hR X ts ch kk a w h hT hd hs
theorem rankS_T (ao:Option Addr)(n c:Nat)(u:Nat→Nat→Int)(v:Nat→Nat→Bool)(pw:Int)(G B R K:Int):(exFn Tryz.prog {tb:=[(101,sGeo),(102,sBank),(28,sBtw)],L:=[(4,rkqS ao n c u v pw G B R K)]} 400 Tryz.f29 ([.a (.agg [.int G,.int B,.int R,.int K]),.a (.agg [.sl 0 ao n c,.int pw])]) ([.row ⟨false,ao,0,2,n,0,flK u v 0 [false,true]⟩]) (fun y_ _=>y_.den=.bool (rkB n u v pw G B R K)))=(
 (fun b:Value=>(fun d:Value=>(fun g:Int=>(fun h:Bool=>(fun j:Value=>(fun k:Bool=>(fun l:Value=>(fun m:Value=>(fun o:Value=>(fun p:Bool=>(fun q:Value=>(fun r:Ch=>∀ s t:Nat,s=s∧True∧(h=false→t=t∧s=s∧True∧(p=false→t=t∧True∧(k=true→d=j)∧(k=false→rows16 R∧∃ w x:Nat,([o,Wa [Ws ao n c,Wi pw],Wp s 0,Wp t 0,d,Wi 0,b,o,Wb (geoB G B R K),Wb h,d,Wp t 0,Ws ao n c,Wi ((n:Nat):Int),o,Wi g,q,q,d,Wp t 1,Wi pw,l,m,d,b,b,b,b,b,b,b,b,b,b,b,b,b,b,b,b,b,b,b,b,b,b,b,b,b,b,b,b,b,b,b,b,b,b,b,b,b,b]=[o,Wa [Ws ao n c,Wi pw],Wp w 0,Wp x 0,d,Wi 0,b,o,Wb (geoB G B R K),Wb h,d,Wp t 0,Ws ao n c,Wi ((n:Nat):Int),o,Wi g,q,q,d,Wp t 1,Wi pw,l,m,d,b,b,b,b,b,b,b,b,b,b,b,b,b,b,b,b,b,b,b,b,b,b,b,b,b,b,b,b,b,b,b,b,b,b,b,b,b,b]∧[r,Hc s 68 [Ci G,Ci B,Ci R,Ci K],Hc t 81 [Cs 0 ao n c,Ci pw]]=[r,Hc w 68 [Ci G,Ci B,Ci R,Ci K],Hc x 81 [Cs 0 ao n c,Ci pw]])∧(∀ y:Nat→Value,(allB n (rkSP ao n c u v pw G B R K w x))=true→(Wb true)=j)∧∀(y:Nat→Value) (z:Nat),z<n→(allB z (rkSP ao n c u v pw G B R K w x))=true→(rkSP ao n c u v pw G B R K w x z)=false→d=j))∧(p=true→d=j))∧(h=true→d=j)) (Hr false ao 0 2 n 0 [fun r=>Cb (v 0 r),fun r=>Ci (u 1 r)])) (Wb p)) (((n:Nat):Int) != g)) (Wa [Wi G,Wi B,Wi R,Wi K])) (Wb k)) (Wb (btw pw (0:Int) (2:Int)))) (! (btw pw (0:Int) (2:Int)))) (Wb (rkB n u v pw G B R K))) (! (geoB G B R K))) (bankN G B R K)) (Wb false)) (Wu [])):=by kernel_rfl
theorem rankS_any (ao:Option Addr)(n c:Nat)(u:Nat→Nat→Int)(v:Nat→Nat→Bool)(pw:Int)(G B R K:Int)(w:World)(hn:n≤1048576)(h0:Row.sat w ⟨false,ao,0,2,n,0,flK u v 0 [false,true]⟩):Calls Tryz.prog 29 #[.agg #[.int .i64 G,.int .i64 B,.int .i64 R,.int .i64 K],.agg #[.slice ao n c,.int .i64 pw]] w fun e w'=>e=.returned (.bool (rkB n u v pw G B R K))∧Below w.heap.size w w':=by
 refine fn_ok mixed (E:={tb:=[(101,sGeo),(102,sBank),(28,sBtw)],L:=[(4,rkqS ao n c u v pw G B R K)]}) ⟨sGeo_S,sBank_S,sBtwS_ok,trivial⟩ Tryz.func29 (one_loop (by kernel_rfl) (by kernel_rfl) (rkqS_ok ao n c u v pw G B R K (by omega) _)) (@Eq.mpr _ _ (rankS_T ao n c u v pw G B R K) ?_) (HS.rows (fun _=>False) [⟨false,ao,0,2,n,0,flK u v 0 [false,true]⟩] (by simpa using h0)) (fun v ch' w' hv hs=>⟨by rw [hv],hs.below⟩)
 dsimp -zeta -proj -iota -eta -failIfUnchanged (etaStruct:=.none) only
 clear h0
 cases hg:geoB G B R K
 ·have hok:rkB n u v pw G B R K=false:=by simp [rkB,hg]
  repeat' (first
   | with_reducible exact rfl
   | exact True.intro
   | with_reducible assumption
   | (simp only [hok];done)
   | refine And.intro ?_ ?_
   | apply Exists.intro
   | (refine fun (h:@Eq Bool _ _)=>?_;exfalso;first | (simp [hg] at h;done) | (simp [hg] at h;omega))
   | intro _
   | omega
   | exact rfl)
 ·have hf:=geo_facts hg
  have hb:=geo_bank hg
  cases h1:ieq (n:Int) (bankN G B R K)
  all_goals have n1:=ieq_ne h1
  ·have hok:rkB n u v pw G B R K=false:=by simp [rkB,h1]
   repeat' (first
    | with_reducible exact rfl
    | exact True.intro
    | with_reducible assumption
    | (simp only [hok];done)
    | refine And.intro ?_ ?_
    | apply Exists.intro
    | (refine fun (h:@Eq Bool _ _)=>?_;exfalso;first | (simp [hg,h1,n1] at h;done) | (simp [hg,h1,n1] at h;omega))
    | intro _
    | omega
    | exact rfl)
  ·cases h2:btw pw 0 2
   ·have hok:rkB n u v pw G B R K=false:=by simp [rkB,h2]
    repeat' (first
     | with_reducible exact rfl
     | exact True.intro
     | with_reducible assumption
     | (simp only [hok];done)
     | refine And.intro ?_ ?_
     | apply Exists.intro
     | (refine fun (h:@Eq Bool _ _)=>?_;exfalso;first | (simp [hg,h1,n1,h2] at h;done) | (simp [hg,h1,n1,h2] at h;omega))
     | intro _
     | omega
     | exact rfl)
   ·have hrk:rkB n u v pw G B R K=allB n (fun j=>btw (u 1 j) 0 (R-1)&&(v 0 j || ieq (u 1 j) 0)&&!(v 0 j&&ieq pw 2)):=by simp [rkB,hg,h1,h2]
    rw [hrk]
    repeat' (first
     | with_reducible exact rfl
     | exact True.intro
     | with_reducible assumption
     | (intro g (ha:allB n _=true);exact congrArg Value.bool ha.symm)
     | (intro g j hj ha hP;exact congrArg Value.bool (allB_no (p:=fun j=>btw (u 1 j) 0 (R-1)&&(v 0 j || ieq (u 1 j) 0)&&!(v 0 j&&ieq pw 2)) hj hP).symm)
     | refine And.intro ?_ ?_
     | apply Exists.intro
     | (refine fun (h:@Eq Bool _ _)=>?_;exfalso;first | (simp [hg,h1,n1,h2] at h;done) | (simp [hg,h1,n1,h2] at h;omega))
     | intro _
     | omega
     | exact rfl)
def sRkOk:Sm:=fun args ch k =>
 match args with
 | [.a (.agg [c0,c1,c2,c3]),.a (.agg [x,y])] =>
  match ints [c0,c1,c2,c3,y] with
  | some [G,B,R,K,pw]=>rdf [false,true] ch x fun n c u v=>cap1C n∧k (.a (.c (.bool (rkB n u v pw G B R K)))) ch []
  | _=>False
 | _=>False
theorem sRkOk_I:SmOK Tryz.prog 62 sRkOk:=by
 refine smB Tryz.call62 fun args ch k w X h0 hs=>?_
 unfold sRkOk at h0
 split at h0
 ·split at h0
  ·rename_i G B R K pw hi
   obtain ⟨e0,hi⟩:=ints_cons hi
   obtain ⟨e1,hi⟩:=ints_cons hi
   obtain ⟨e2,hi⟩:=ints_cons hi
   obtain ⟨e3,hi⟩:=ints_cons hi
   obtain ⟨e4,hi⟩:=ints_cons hi
   obtain ⟨ao,n,c,u,v,em,hr,hn,h0⟩:=rdf_ok h0 hs
   refine ⟨_,h0,?_⟩
   simp only [List.map_cons,List.map_nil,den_a,SA.den,em,e0,e1,e2,e3,e4]
   exact rankI_any ao n c u v pw G B R K w hn hr
  ·exact h0.elim
 ·exact h0.elim
theorem sRkOk_S:SmOK Tryz.prog 29 sRkOk:=by
 refine smB Tryz.call29 fun args ch k w X h0 hs=>?_
 unfold sRkOk at h0
 split at h0
 ·split at h0
  ·rename_i G B R K pw hi
   obtain ⟨e0,hi⟩:=ints_cons hi
   obtain ⟨e1,hi⟩:=ints_cons hi
   obtain ⟨e2,hi⟩:=ints_cons hi
   obtain ⟨e3,hi⟩:=ints_cons hi
   obtain ⟨e4,hi⟩:=ints_cons hi
   obtain ⟨ao,n,c,u,v,em,hr,hn,h0⟩:=rdf_ok h0 hs
   refine ⟨_,h0,?_⟩
   simp only [List.map_cons,List.map_nil,den_a,SA.den,em,e0,e1,e2,e3,e4]
   exact rankS_any ao n c u v pw G B R K w hn hr
  ·exact h0.elim
 ·exact h0.elim
end Go.Proofs.YtmnccapnjphmfaaGreat
