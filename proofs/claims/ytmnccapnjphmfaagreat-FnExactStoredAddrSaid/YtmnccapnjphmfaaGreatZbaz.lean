/-
  FnExactStoredAddr: a part of the walk (merged and squeezed by program: SxPrG).
-/
import Derived.Test.YtmnccapnjphmfaaGreatZbay
namespace Go.Proofs.YtmnccapnjphmfaaGreat
set_option linter.unusedVariables false
set_option linter.unusedSimpArgs false
open Go.RowKit
set_option maxRecDepth 100000
set_option maxHeartbeats 8000000
def sprB (n:Nat)(f:Nat→Int)(sp G B R K:Int):Bool:=spOk G B R K sp&&ieq (n:Int) (bankN G B R K*(R-sp))&&allB n (fun j=>ieq (f j) ((j:Int) % (R-sp)) || (btw (f j) (R-sp) (R-1)&&!isIn (Int.toNat ((j:Int)-((j:Int) / (R-sp)*(R-sp)))) (fun i=>f (i+Int.toNat ((j:Int) / (R-sp)*(R-sp)))) (f j)))
theorem spOk_facts {G B R K sp:Int}(h:spOk G B R K sp=true):geoB G B R K=true∧bankN G B R K=(spN G B R K:Int)∧R-sp=(spM R sp:Int)∧(spN G B R K≤8∧2≤spM R sp∧spM R sp≤16)∧(2≤R∧R≤16)∧(0≤sp∧sp≤2):=by
 simp only [spOk,Bool.and_eq_true,decide_eq_true_eq] at h
 obtain ⟨⟨hg,hs⟩,h2⟩:=h
 have hf:=geo_facts hg
 have hb:=geo_bank hg
 have hbk:bankN G B R K=G*B:=by simp [bankN,hg]
 rw [← hbk] at hb
 have h3:=btw_facts' hs
 refine ⟨hg,?_,?_,⟨?_,?_,?_⟩,hf.2.2.1,h3⟩ <;> simp only [spN,spM] <;> omega
theorem spr_same {n:Nat}{f:Nat→Int}{sp R:Int}{N M:Nat}(hM:R-sp=(M:Int))(h2:2≤M)(hn:n=N*M):allB N (fun j=>allB (Int.toNat ((((j:Int)+1)*(R-sp))-((j:Int)*(R-sp)))) (bkB (Int.toNat ((((j:Int)+1)*(R-sp))-((j:Int)*(R-sp)))) (fun i=>f (i+Int.toNat ((j:Int)*(R-sp)))) R sp))=allB n (fun j=>ieq (f j) ((j:Int) % (R-sp)) || (btw (f j) (R-sp) (R-1)&&!isIn (Int.toNat ((j:Int)-((j:Int) / (R-sp)*(R-sp)))) (fun i=>f (i+Int.toNat ((j:Int) / (R-sp)*(R-sp)))) (f j))):=by
 have e1:∀ j:Nat,Int.toNat ((j:Int)*(R-sp))=j*M:=fun j=>by rw [hM,← Int.natCast_mul,Int.toNat_natCast]
 have e2:∀ j:Nat,Int.toNat ((((j:Int)+1)*(R-sp))-((j:Int)*(R-sp)))=M:=fun j=>by
  rw [hM,Int.add_mul]
  omega
 have e3:∀ j:Nat,(j:Int) / (R-sp)*(R-sp)=((j / M*M:Nat):Int):=fun j=>by rw [hM];simp
 have e4:∀ j:Nat,(j:Int) % (R-sp)=((j % M:Nat):Int):=fun j=>by rw [hM];simp
 have e5:∀ j:Nat,Int.toNat ((j:Int)-((j / M*M:Nat):Int))=j % M:=fun j=>by
  have:=Nat.div_add_mod j M
  have:M*(j / M)=j / M*M:=Nat.mul_comm _ _
  omega
 simp only [e1,e2,e3,e4,e5,Int.toNat_natCast]
 cases hS:allB n (fun j=>ieq (f j) ((j % M:Nat):Int) || (btw (f j) (R-sp) (R-1)&&!isIn (j % M) (fun i=>f (i+j / M*M)) (f j)))
 ·obtain ⟨i,hi,hp⟩:=allB_at hS
  simp only [Bool.or_eq_false_iff,Bool.and_eq_false_iff,Bool.not_eq_false'] at hp
  obtain ⟨hp1,hp2⟩:=hp
  have hdm:i % M+i / M*M=i:=by rw [Nat.mul_comm];exact Nat.mod_add_div i M
  have hb:i / M<N:=Nat.div_lt_of_lt_mul (by rw [Nat.mul_comm,← hn];exact hi)
  have hr:i % M<M:=Nat.mod_lt _ (by omega)
  refine allB_no (j:=i / M) hb (allB_no (j:=i % M) hr ?_)
  simp only [bkB,hdm,hp1,Bool.false_or]
  rcases hp2 with hp2 | hp2
  ·simp [hp2]
  ·simp only [isIn,Bool.not_eq_true'] at hp2
   obtain ⟨k,hk,hkv⟩:=allB_at hp2
   simp only [Bool.not_eq_false'] at hkv
   have:1<cntB M (fun k=>ieq (f (k+i / M*M)) (f i)):=cntB_two (k:=k) (i:=i % M) hk hr hkv (by simp [ieq,hdm])
   have h9:1<crC M (fun i_1=>f (i_1+i / M*M)) (f i):=by simp only [crC];omega
   simp [h9]
 ·refine List.all_eq_true.2 fun b hb=>?_
  have hb':=List.mem_range.1 hb
  refine List.all_eq_true.2 fun r hr=>?_
  have hr':=List.mem_range.1 hr
  have key:∀ r,r<M→(r+b*M<n∧(r+b*M) % M=r∧(r+b*M) / M=b):=fun r hr=>by
   refine ⟨?_,?_,?_⟩
   ·rw [hn]
    have:=Nat.mul_le_mul_right M hb'
    rw [Nat.succ_mul] at this
    omega
   ·rw [Nat.add_mul_mod_self_right,Nat.mod_eq_of_lt hr]
   ·rw [Nat.add_mul_div_right _ _ (by omega),Nat.div_eq_of_lt hr,Nat.zero_add]
  obtain ⟨k1,k2,k3⟩:=key r hr'
  have hp:=allB_get hS k1
  simp only [k2,k3] at hp
  show bkB _ _ _ _ _=true
  simp only [bkB]
  cases h1:ieq (f (r+b*M)) (r:Int)
  ·simp only [h1,Bool.false_or,Bool.and_eq_true,Bool.not_eq_true'] at hp
   simp only [Bool.false_or,hp.1,Bool.true_and,Bool.not_eq_true',decide_eq_false_iff_not]
   intro hc
   have hc':1<cntB M (fun k=>ieq (f (k+b*M)) (f (r+b*M))):=by simp only [crC] at hc;omega
   obtain ⟨a1,a2,a3,a4,a5,a6⟩:=cntB_one hc'
   obtain ⟨k4,k5,k6⟩:=key a2 a4
   have hq:=allB_get hS k4
   simp only [k5,k6] at hq
   have hv:=btw_facts' hp.1
   have ea:f (a2+b*M)=f (r+b*M):=by simpa [ieq] using a6
   have h7:ieq (f (a2+b*M)) (a2:Int)=false:=by
    rw [ea]
    have:¬ f (r+b*M)=(a2:Int):=by omega
    simp [ieq,this]
   simp only [h7,Bool.false_or,Bool.and_eq_true,Bool.not_eq_true'] at hq
   have hi:=hq.2
   simp only [isIn,Bool.not_eq_false'] at hi
   have:=allB_get hi a3
   rw [ea] at this
   simp only [a5] at this
   cases this
  ·rfl
def sswqI (ao:Option Addr)(n c:Nat)(f:Nat→Int)(sp G B R K:Int)(N M:Nat):LSm:=fun ts ch kk=>spCn n c N M sp G B R K∧sswIw ao n c f sp G B R K N M ts ch kk
theorem swqI_ok (ao:Option Addr)(n c:Nat)(f:Nat→Int)(sp G B R K:Int)(N M:Nat)(X:Cx):LoopOK Tryz.prog X (theLoop Tryz.f65 0) (sswqI ao n c f sp G B R K N M):=by
 rintro ts ch kk a w ⟨hm,h⟩ hT hd hs
 exact swIw_ok ao n c f sp G B R K N M hm X ts ch kk a w h hT hd hs
theorem sprI_T (ao:Option Addr)(n c:Nat)(f:Nat→Int)(sp G B R K:Int):(exFn Tryz.prog {tb:=[(137,sSpNew)],L:=[(6,sswqI ao n c f sp G B R K (spN G B R K) (spM R sp))]} 400 Tryz.f65 ([.a (.agg [.int G,.int B,.int R,.int K]),.a (.agg [.int sp,.sl 0 ao n c])]) ([.row ⟨false,ao,0,1,n,0,[fun i=>.int (f i)]⟩]) (fun y_ _=>y_.den=.bool (sprB n f sp G B R K)))=(
 (fun b:Value=>(fun d:Value=>(fun g:Value=>(fun h:Nat=>(fun j:Bool=>(fun k:Bool=>(fun l:Value=>(fun m:Value=>(fun o:Value=>(fun p:Value=>(fun q:Nat=>(fun r:Ch=>(fun s:Value=>(fun t:Bool=>(fun u:Value=>∀ v w:Nat,(fun x:Value=>v=v∧w=w∧rngC R∧∀(y:Option Addr) (z C:Nat),(fun D:Value=>(fun E:Value=>C=C∧(k=false→w=w∧C=C∧(t=true→d=m)∧(t=false→v=v∧w=w∧rng (R-sp)∧spCn n c h (spM R sp) sp G B R K∧∃ F H:Nat,([p,Wa [Wi sp,Ws ao n c],Wp v 0,x,d,Wp C 0,l,g,Wi 0,b,b,b,E,p,x,Wi sp,E,D,l,l,Wb k,d,Wp w 1,Ws ao n c,Wi ((n:Nat):Int),Wp C 1,Ws y q z,s,u,d,Wp v 2,Wi R,x,Wi sp,g,b,b,b,b,b,b,b,b,b,b,b,b,b,b,b,b,b,b,b,b,b,b,b,b,b,b,b,b,b,b,b,b,b,b,b,b]=[p,Wa [Wi sp,Ws ao n c],Wp F 0,Wp H 0,d,Wp C 0,l,g,Wi 0,b,b,b,E,p,x,Wi sp,E,D,l,l,Wb k,d,Wp w 1,Ws ao n c,Wi ((n:Nat):Int),Wp C 1,Ws y q z,s,u,d,Wp v 2,Wi R,x,Wi sp,g,b,b,b,b,b,b,b,b,b,b,b,b,b,b,b,b,b,b,b,b,b,b,b,b,b,b,b,b,b,b,b,b,b,b,b,b]∧[r,Hc v 68 [Ci G,Ci B,Ci R,Ci K],Hc w 86 [Ci sp,Cs 0 ao n c]]=[r,Hc F 68 [Ci G,Ci B,Ci R,Ci K],Hc H 86 [Ci sp,Cs 0 ao n c]])∧(∀ I:Nat→Value,(allB h (swIP ao n c f sp G B R K h (spM R sp) F H))=true→(Wb true)=m)∧∀(I:Nat→Value) (J:Nat),J<h→(allB J (swIP ao n c f sp G B R K h (spM R sp) F H))=true→(swIP ao n c f sp G B R K h (spM R sp) F H J)=false→d=m))∧(k=true→d=m)) (Wu [D,l])) (Wa [o,Ws y q z])) (Wp w 0)) (Wb t)) (((n:Nat):Int) != ((q:Nat):Int))) (Wi ((q:Nat):Int))) (Hr false ao 0 1 n 0 [fun r=>Ci (f r)])) (ifN j (spK G B R K sp))) (Wa [Wi G,Wi B,Wi R,Wi K])) (Wi (ifZ j sp))) (Wb (sprB n f sp G B R K))) (Wb j)) (! j)) (spOk G B R K sp)) (spN G B R K)) (Wi (R-sp))) (Wb false)) (Wu [])):=by kernel_rfl
theorem sprI_any (ao:Option Addr)(n c:Nat)(f:Nat→Int)(sp G B R K:Int)(w:World)(hn:n≤9223372036854775807)(hcp:n≤c)(hrR:rngC R)(h0:Row.sat w ⟨false,ao,0,1,n,0,[fun i=>.int (f i)]⟩):Calls Tryz.prog 65 #[.agg #[.int .i64 G,.int .i64 B,.int .i64 R,.int .i64 K],.agg #[.int .i64 sp,.slice ao n c]] w fun e w'=>e=.returned (.bool (sprB n f sp G B R K))∧Below w.heap.size w w':=by
 refine fn_ok mixed (E:={tb:=[(137,sSpNew)],L:=[(6,sswqI ao n c f sp G B R K (spN G B R K) (spM R sp))]}) ⟨sSpNew_I,trivial⟩ Tryz.func65 (first_loop (rest:=[10]) (by kernel_rfl) (by decide) (swqI_ok ao n c f sp G B R K (spN G B R K) (spM R sp) _)) (@Eq.mpr _ _ (sprI_T ao n c f sp G B R K) ?_) (HS.rows (fun _=>False) [⟨false,ao,0,1,n,0,[fun i=>.int (f i)]⟩] (by simpa using h0)) (fun v ch' w' hv hs=>⟨by rw [hv],hs.below⟩)
 dsimp -zeta -proj -iota -eta -failIfUnchanged (etaStruct:=.none) only
 clear h0
 cases hsp:spOk G B R K sp
 ·have hok:sprB n f sp G B R K=false:=by simp [sprB,hsp]
  repeat' (first
   | with_reducible exact rfl
   | exact True.intro
   | with_reducible assumption
   | (simp only [hok];done)
   | refine And.intro ?_ ?_
   | apply Exists.intro
   | (refine fun (h:@Eq Bool _ _)=>?_;exfalso;first | (simp [hsp] at h;done) | (simp [hsp] at h;omega))
   | intro _
   | omega
   | exact rfl)
 ·obtain ⟨hf1,hf2,hf3,hf4,hf5,hf6⟩:=spOk_facts hsp
  have hk:spN G B R K*spM R sp≤8*16:=Nat.mul_le_mul hf4.1 hf4.2.2
  have hk2:bankN G B R K*(R-sp)=((spN G B R K*spM R sp:Nat):Int):=by rw [hf2,hf3];simp
  have hk3:spK G B R K sp=spN G B R K*spM R sp:=rfl
  have hk4:ifN true (spK G B R K sp)=spK G B R K sp:=rfl
  obtain ⟨hg1,hg2,hg3⟩:=hf4
  have hf4:spN G B R K≤8∧2≤spM R sp∧spM R sp≤16:=⟨hg1,hg2,hg3⟩
  by_cases h2:n=spN G B R K*spM R sp
  ·have e7:((n:Int) != ((ifN true (spK G B R K sp):Nat):Int))=false:=by rw [hk4,hk3,← h2];simp
   have e8:((n:Int) != bankN G B R K*(R-sp))=false:=by rw [hk2,← h2];simp
   have hcn:spCn n c (spN G B R K) (spM R sp) sp G B R K:=⟨hf2,hf3,h2,hf4,hf5,hcp⟩
   have hc1:allB (spN G B R K) (fun j=>allB (Int.toNat ((((j:Int)+1)*(R-sp))-((j:Int)*(R-sp)))) (bkB (Int.toNat ((((j:Int)+1)*(R-sp))-((j:Int)*(R-sp)))) (fun i=>f (i+Int.toNat ((j:Int)*(R-sp)))) R sp))=allB n (fun j=>ieq (f j) ((j:Int) % (R-sp)) || (btw (f j) (R-sp) (R-1)&&!isIn (Int.toNat ((j:Int)-((j:Int) / (R-sp)*(R-sp)))) (fun i=>f (i+Int.toNat ((j:Int) / (R-sp)*(R-sp)))) (f j))):=spr_same hf3 hf4.2.1 h2
   have hrd:sprB n f sp G B R K=allB n (fun j=>ieq (f j) ((j:Int) % (R-sp)) || (btw (f j) (R-sp) (R-1)&&!isIn (Int.toNat ((j:Int)-((j:Int) / (R-sp)*(R-sp)))) (fun i=>f (i+Int.toNat ((j:Int) / (R-sp)*(R-sp)))) (f j))):=by
    have:ieq (n:Int) (bankN G B R K*(R-sp))=true:=by rw [hk2,h2];exact beq_self_eq_true _
    simp only [sprB,hsp,this,Bool.true_and]
   repeat' (first
    | with_reducible exact rfl
    | exact True.intro
    | with_reducible assumption
    | exact hcn
    | (intro g (ha_:allB (spN G B R K) _=true);have e1:allB n (fun j=>ieq (f j) ((j:Int) % (R-sp)) || (btw (f j) (R-sp) (R-1)&&!isIn (Int.toNat ((j:Int)-((j:Int) / (R-sp)*(R-sp)))) (fun i=>f (i+Int.toNat ((j:Int) / (R-sp)*(R-sp)))) (f j)))=true:=hc1.symm.trans ha_;clear ha_)
    | (intro g j hj ha hP;have e0_:allB n (fun j=>ieq (f j) ((j:Int) % (R-sp)) || (btw (f j) (R-sp) (R-1)&&!isIn (Int.toNat ((j:Int)-((j:Int) / (R-sp)*(R-sp)))) (fun i=>f (i+Int.toNat ((j:Int) / (R-sp)*(R-sp)))) (f j)))=false:=hc1.symm.trans (allB_no (p:=fun j=>allB (Int.toNat ((((j:Int)+1)*(R-sp))-((j:Int)*(R-sp)))) (bkB (Int.toNat ((((j:Int)+1)*(R-sp))-((j:Int)*(R-sp)))) (fun i=>f (i+Int.toNat ((j:Int)*(R-sp)))) R sp)) hj hP);exact congrArg Value.bool (by rw [hrd,e0_]))
    | (exact congrArg Value.bool (by rw [hrd,e1]))
    | (show @Eq (List _) _ _;exact rfl)
    | (show rng _;rw [hk2];exact ⟨by omega,by omega⟩)
    | refine And.intro ?_ ?_
    | apply Exists.intro
    | (refine fun (h:@Eq Bool _ _)=>?_;exfalso;first | (simp [hsp,e7,e8] at h;done) | (simp [hsp,e7,e8] at h;omega))
    | intro _
    | omega
    | exact rfl)
  ·have e7:((n:Int) != ((ifN true (spK G B R K sp):Nat):Int))=true:=by rw [hk4,hk3];simp;omega
   have e8:((n:Int) != bankN G B R K*(R-sp))=true:=by rw [hk2];simp;omega
   have hok:sprB n f sp G B R K=false:=by
    have:ieq (n:Int) (bankN G B R K*(R-sp))=false:=by
     rw [hk2]
     have:¬ (n:Int)=((spN G B R K*spM R sp:Nat):Int):=by omega
     simp only [ieq,beq_eq_false_iff_ne]
     exact this
    simp only [sprB,this,Bool.and_false,Bool.false_and]
   repeat' (first
    | with_reducible exact rfl
    | exact True.intro
    | with_reducible assumption
    | (simp only [hok];done)
    | (show rng _;rw [hk2];exact ⟨by omega,by omega⟩)
    | refine And.intro ?_ ?_
    | apply Exists.intro
    | (refine fun (h:@Eq Bool _ _)=>?_;exfalso;first | (simp [hsp,e7,e8] at h;done) | (simp [hsp,e7,e8] at h;omega))
    | intro _
    | omega
    | exact rfl)
def sswqS (ao:Option Addr)(n c:Nat)(f:Nat→Int)(sp G B R K:Int)(N M:Nat):LSm:=fun ts ch kk=>spCn n c N M sp G B R K∧sswSw ao n c f sp G B R K N M ts ch kk
theorem swqS_ok (ao:Option Addr)(n c:Nat)(f:Nat→Int)(sp G B R K:Int)(N M:Nat)(X:Cx):LoopOK Tryz.prog X (theLoop Tryz.f32 0) (sswqS ao n c f sp G B R K N M):=by
 rintro ts ch kk a w ⟨hm,h⟩ hT hd hs
 exact swSw_ok ao n c f sp G B R K N M hm X ts ch kk a w h hT hd hs
theorem sprS_T (ao:Option Addr)(n c:Nat)(f:Nat→Int)(sp G B R K:Int):(exFn Tryz.prog {tb:=[(105,sSpNew),(102,sBank)],L:=[(6,sswqS ao n c f sp G B R K (spN G B R K) (spM R sp))]} 400 Tryz.f32 ([.a (.agg [.int G,.int B,.int R,.int K]),.a (.agg [.wi sp,.sl 0 ao n c])]) ([.row ⟨false,ao,0,1,n,0,[fun i=>.int (f i)]⟩]) (fun y_ _=>y_.den=.bool (sprB n f sp G B R K)))=(
 (fun b:Value=>(fun d:Value=>(fun g:Nat=>(fun h:Int=>(fun j:Bool=>(fun k:Bool=>(fun l:Value=>(fun m:Value=>(fun o:Value=>(fun p:Value=>(fun q:Nat=>(fun r:Ch=>∀ s t:Nat,(fun u:Value=>s=s∧t=t∧rngC R∧∀(v:Option Addr) (w x:Nat),(fun y:Value=>(fun z:Value=>x=x∧s=s∧t=t∧∀ C:Int,(fun D:Bool=>(fun E:Value=>C=(wrapI (R-sp))→(k=false→t=t∧s=s∧True∧rng (h*C)∧(D=true→d=m)∧(D=false→spCn n c g (spM R sp) sp G B R K∧∃ F H:Nat,([p,Wa [Wi sp,Ws ao n c],Wp s 0,u,d,Wp x 0,l,Wi C,Wi 0,z,p,u,Wi sp,z,y,l,Wp s 2,Wi R,u,Wi sp,Wi C,l,Wb k,d,Wp t 1,Ws ao n c,Wi ((n:Nat):Int),p,Wi h,Wi C,Wi (h*C),E,d,b,b,b,b,b,b,b,b,b,b,b,b,b,b,b,b,b,b,b,b,b,b,b,b,b,b,b,b,b,b,b,b,b,b,b,b,b,b,b,b,b,b,b,b]=[p,Wa [Wi sp,Ws ao n c],Wp F 0,Wp H 0,d,Wp x 0,l,Wi (R-sp),Wi 0,z,p,u,Wi sp,z,y,l,Wp s 2,Wi R,u,Wi sp,Wi C,l,Wb k,d,Wp t 1,Ws ao n c,Wi ((n:Nat):Int),p,Wi h,Wi C,Wi (h*C),E,d,b,b,b,b,b,b,b,b,b,b,b,b,b,b,b,b,b,b,b,b,b,b,b,b,b,b,b,b,b,b,b,b,b,b,b,b,b,b,b,b,b,b,b,b]∧[r,Hc s 68 [Ci G,Ci B,Ci R,Ci K],Hc t 86 [SC.wi sp,Cs 0 ao n c]]=[r,Hc F 68 [Ci G,Ci B,Ci R,Ci K],Hc H 86 [SC.wi sp,Cs 0 ao n c]])∧(∀ I:Nat→Value,(allB n (swSP ao n c f sp G B R K g (spM R sp) F H))=true→(Wb true)=m)∧∀(I:Nat→Value) (J:Nat),J<n→(allB J (swSP ao n c f sp G B R K g (spM R sp) F H))=true→(swSP ao n c f sp G B R K g (spM R sp) F H J)=false→d=m))∧(k=true→d=m)) (Wb D)) (((n:Nat):Int) != (h*C))) (Wu [y,l])) (Wa [o,Ws v q w])) (Wp t 0)) (Hr false ao 0 1 n 0 [fun r=>Ci (f r)])) (ifN j (spK G B R K sp))) (Wa [Wi G,Wi B,Wi R,Wi K])) (Wi (ifZ j sp))) (Wb (sprB n f sp G B R K))) (Wb j)) (! j)) (spOk G B R K sp)) (bankN G B R K)) (spN G B R K)) (Wb false)) (Wu [])):=by kernel_rfl
theorem sprS_any (ao:Option Addr)(n c:Nat)(f:Nat→Int)(sp G B R K:Int)(w:World)(hn:n≤9223372036854775807)(hcp:n≤c)(hrR:rngC R)(h0:Row.sat w ⟨false,ao,0,1,n,0,[fun i=>.int (f i)]⟩):Calls Tryz.prog 32 #[.agg #[.int .i64 G,.int .i64 B,.int .i64 R,.int .i64 K],.agg #[.int .i64 sp,.slice ao n c]] w fun e w'=>e=.returned (.bool (sprB n f sp G B R K))∧Below w.heap.size w w':=by
 refine fn_ok mixed (E:={tb:=[(105,sSpNew),(102,sBank)],L:=[(6,sswqS ao n c f sp G B R K (spN G B R K) (spM R sp))]}) ⟨sSpNew_S,sBank_S,trivial⟩ Tryz.func32 (one_loop (by kernel_rfl) (by kernel_rfl) (swqS_ok ao n c f sp G B R K (spN G B R K) (spM R sp)  _)) (@Eq.mpr _ _ (sprS_T ao n c f sp G B R K) ?_) (HS.rows (fun _=>False) [⟨false,ao,0,1,n,0,[fun i=>.int (f i)]⟩] (by simpa using h0)) (fun v ch' w' hv hs=>⟨by rw [hv],hs.below⟩)
 dsimp -zeta -proj -iota -eta -failIfUnchanged (etaStruct:=.none) only
 clear h0
 have hz:∀ z:Int,z=wrapI (R-sp)→spOk G B R K sp=true→z=R-sp:=fun z h hk=>by
  have:=spOk_facts hk
  rw [h]
  exact wrap_rng ⟨by omega,by omega⟩
 cases hsp:spOk G B R K sp
 ·have hok:sprB n f sp G B R K=false:=by simp [sprB,hsp]
  repeat' (first
   | with_reducible exact rfl
   | exact True.intro
   | with_reducible assumption
   | (simp only [hok];done)
   | refine And.intro ?_ ?_
   | apply Exists.intro
   | (refine fun (h:@Eq Bool _ _)=>?_;exfalso;first | (simp [hsp] at h;done) | (simp [hsp] at h;omega))
   | intro _
   | omega
   | exact rfl)
 ·obtain ⟨hf1,hf2,hf3,hf4,hf5,hf6⟩:=spOk_facts hsp
  have hk:spN G B R K*spM R sp≤8*16:=Nat.mul_le_mul hf4.1 hf4.2.2
  have hk2:bankN G B R K*(R-sp)=((spN G B R K*spM R sp:Nat):Int):=by rw [hf2,hf3];simp
  have hk3:spK G B R K sp=spN G B R K*spM R sp:=rfl
  have hk4:ifN true (spK G B R K sp)=spK G B R K sp:=rfl
  obtain ⟨hg1,hg2,hg3⟩:=hf4
  have hf4:spN G B R K≤8∧2≤spM R sp∧spM R sp≤16:=⟨hg1,hg2,hg3⟩
  by_cases h2:n=spN G B R K*spM R sp
  ·have e7:((n:Int) != ((ifN true (spK G B R K sp):Nat):Int))=false:=by rw [hk4,hk3,← h2];simp
   have e8:((n:Int) != bankN G B R K*(R-sp))=false:=by rw [hk2,← h2];simp
   have hcn:spCn n c (spN G B R K) (spM R sp) sp G B R K:=⟨hf2,hf3,h2,hf4,hf5,hcp⟩
   have hc1:allB (n) (fun j=>ieq (f j) ((j:Int) % (R-sp)) || (btw (f j) (R-sp) (R-1)&&!isIn (Int.toNat ((j:Int)-((j:Int) / (R-sp)*(R-sp)))) (fun i=>f (i+Int.toNat ((j:Int) / (R-sp)*(R-sp)))) (f j)))=allB n (fun j=>ieq (f j) ((j:Int) % (R-sp)) || (btw (f j) (R-sp) (R-1)&&!isIn (Int.toNat ((j:Int)-((j:Int) / (R-sp)*(R-sp)))) (fun i=>f (i+Int.toNat ((j:Int) / (R-sp)*(R-sp)))) (f j))):=rfl
   have hrd:sprB n f sp G B R K=allB n (fun j=>ieq (f j) ((j:Int) % (R-sp)) || (btw (f j) (R-sp) (R-1)&&!isIn (Int.toNat ((j:Int)-((j:Int) / (R-sp)*(R-sp)))) (fun i=>f (i+Int.toNat ((j:Int) / (R-sp)*(R-sp)))) (f j))):=by
    have:ieq (n:Int) (bankN G B R K*(R-sp))=true:=by rw [hk2,h2];exact beq_self_eq_true _
    simp only [sprB,hsp,this,Bool.true_and]
   repeat' (first
    | with_reducible exact rfl
    | exact True.intro
    | with_reducible assumption
    | ((with_reducible intro (z_:Int) (hz_:@Eq Int _ _));have hz2:=hz z_ hz_ hsp;clear hz_;subst hz2)
    | exact hcn
    | (intro g (ha_:allB (n) _=true);have e1:allB n (fun j=>ieq (f j) ((j:Int) % (R-sp)) || (btw (f j) (R-sp) (R-1)&&!isIn (Int.toNat ((j:Int)-((j:Int) / (R-sp)*(R-sp)))) (fun i=>f (i+Int.toNat ((j:Int) / (R-sp)*(R-sp)))) (f j)))=true:=hc1.symm.trans ha_;clear ha_)
    | (intro g j hj ha hP;have e0_:allB n (fun j=>ieq (f j) ((j:Int) % (R-sp)) || (btw (f j) (R-sp) (R-1)&&!isIn (Int.toNat ((j:Int)-((j:Int) / (R-sp)*(R-sp)))) (fun i=>f (i+Int.toNat ((j:Int) / (R-sp)*(R-sp)))) (f j)))=false:=hc1.symm.trans (allB_no (p:=fun j=>ieq (f j) ((j:Int) % (R-sp)) || (btw (f j) (R-sp) (R-1)&&!isIn (Int.toNat ((j:Int)-((j:Int) / (R-sp)*(R-sp)))) (fun i=>f (i+Int.toNat ((j:Int) / (R-sp)*(R-sp)))) (f j))) hj hP);exact congrArg Value.bool (by rw [hrd,e0_]))
    | (exact congrArg Value.bool (by rw [hrd,e1]))
    | (show @Eq (List _) _ _;exact rfl)
    | (show rng _;rw [hk2];exact ⟨by omega,by omega⟩)
    | refine And.intro ?_ ?_
    | apply Exists.intro
    | (refine fun (h:@Eq Bool _ _)=>?_;exfalso;first | (simp [hsp,e7,e8] at h;done) | (simp [hsp,e7,e8] at h;omega))
    | intro _
    | omega
    | exact rfl)
  ·have e7:((n:Int) != ((ifN true (spK G B R K sp):Nat):Int))=true:=by rw [hk4,hk3];simp;omega
   have e8:((n:Int) != bankN G B R K*(R-sp))=true:=by rw [hk2];simp;omega
   have hok:sprB n f sp G B R K=false:=by
    have:ieq (n:Int) (bankN G B R K*(R-sp))=false:=by
     rw [hk2]
     have:¬ (n:Int)=((spN G B R K*spM R sp:Nat):Int):=by omega
     simp only [ieq,beq_eq_false_iff_ne]
     exact this
    simp only [sprB,this,Bool.and_false,Bool.false_and]
   repeat' (first
    | with_reducible exact rfl
    | exact True.intro
    | with_reducible assumption
    | ((with_reducible intro (z_:Int) (hz_:@Eq Int _ _));have hz2:=hz z_ hz_ hsp;clear hz_;subst hz2)
    | (simp only [hok];done)
    | (show rng _;rw [hk2];exact ⟨by omega,by omega⟩)
    | refine And.intro ?_ ?_
    | apply Exists.intro
    | (refine fun (h:@Eq Bool _ _)=>?_;exfalso;first | (simp [hsp,e7,e8] at h;done) | (simp [hsp,e7,e8] at h;omega))
    | intro _
    | omega
    | exact rfl)
def sSprOk:Sm:=fun args ch k =>
 match args with
 | [.a (.agg [c0,c1,c2,c3]),.a (.agg [y,x])] =>
  match ints [c0,c1,c2,c3,y] with
  | some [G,B,R,K,sp] =>
   match x with
   | .sl id ao n c=>rdn ch (.sl id ao n c) fun m f=>(lenC m∧leC m n∧leC n c∧rngC R)∧k (.a (.c (.bool (sprB m f sp G B R K)))) ch []
   | _=>False
  | _=>False
 | _=>False
theorem sSprOk_I:SmOK Tryz.prog 65 sSprOk:=by
 refine smB Tryz.call65 fun args ch k w X h0 hs=>?_
 unfold sSprOk at h0
 split at h0
 ·split at h0
  ·rename_i G B R K sp hi
   split at h0
   ·rename_i id ao n c
    obtain ⟨e0,hi⟩:=ints_cons hi
    obtain ⟨e1,hi⟩:=ints_cons hi
    obtain ⟨e2,hi⟩:=ints_cons hi
    obtain ⟨e3,hi⟩:=ints_cons hi
    obtain ⟨e4,hi⟩:=ints_cons hi
    obtain ⟨ao',m,c',f,em,hr,⟨h1,h2,h3,h4⟩,h0⟩:=rdn_ok h0 hs
    refine ⟨_,h0,?_⟩
    have em2:Value.slice ao n c=Value.slice ao' m c':=em
    injection em2 with ea en ec
    subst ea en ec
    simp only [List.map_cons,List.map_nil,den_a,SA.den,em,e0,e1,e2,e3,e4]
    exact sprI_any ao n c f sp G B R K w h1 h3 h4 hr
   ·exact h0.elim
  ·exact h0.elim
 ·exact h0.elim
theorem sSprOk_S:SmOK Tryz.prog 32 sSprOk:=by
 refine smB Tryz.call32 fun args ch k w X h0 hs=>?_
 unfold sSprOk at h0
 split at h0
 ·split at h0
  ·rename_i G B R K sp hi
   split at h0
   ·rename_i id ao n c
    obtain ⟨e0,hi⟩:=ints_cons hi
    obtain ⟨e1,hi⟩:=ints_cons hi
    obtain ⟨e2,hi⟩:=ints_cons hi
    obtain ⟨e3,hi⟩:=ints_cons hi
    obtain ⟨e4,hi⟩:=ints_cons hi
    obtain ⟨ao',m,c',f,em,hr,⟨h1,h2,h3,h4⟩,h0⟩:=rdn_ok h0 hs
    refine ⟨_,h0,?_⟩
    have em2:Value.slice ao n c=Value.slice ao' m c':=em
    injection em2 with ea en ec
    subst ea en ec
    simp only [List.map_cons,List.map_nil,den_a,SA.den,em,e0,e1,e2,e3,e4]
    exact sprS_any ao n c f sp G B R K w h1 h3 h4 hr
   ·exact h0.elim
  ·exact h0.elim
 ·exact h0.elim
end Go.Proofs.YtmnccapnjphmfaaGreat
