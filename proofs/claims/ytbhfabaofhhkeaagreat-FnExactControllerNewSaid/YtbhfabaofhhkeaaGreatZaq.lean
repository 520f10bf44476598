/-
  FnExactControllerNew: a part of the walk (merged and squeezed by program: SxSpare3).
-/
import Derived.Test.YtbhfabaofhhkeaaGreatZam
namespace Go.Proofs.YtbhfabaofhhkeaaGreat
set_option linter.unusedVariables false
set_option linter.unusedSimpArgs false
open Go.RowKit
set_option maxRecDepth 100000
set_option maxHeartbeats 8000000
def sqH (G B R C sp:Int)(N m pa pb pc:Nat)(i:SC)(g:Nat→Value):List SV:=[.a (.c (.val (g 0))),.a (.c (.int sp)),.a (.c (.ptr 0 pa 0)),.a (.c (.val (g 3))),.a (.c (.ptr 1 pb 0)),.a (.c (.val (g 5))),.a (.c (.ptr 2 pc 0)),.a (.c i),.a (.c (.val (g 8))),.a (.c (.val (g 9))),.a (.c (.val (g 10))),.a (.c (.val (g 11))),.a (.c (.val (g 12))),.a (.c (.val (g 13))),.a (.c (.val (g 14))),.a (.c (.val (g 15))),.a (.c (.val (g 16))),.a (.c (.val (g 17))),.a (.c (.val (g 18))),.a (.c (.val (g 19))),.a (.c (.val (g 20))),.a (.c (.val (g 21))),.a (.c (.val (g 22))),.a (.c (.val (g 23))),.a (.c (.val (g 24))),.a (.c (.val (g 25))),.a (.c (.val (g 26))),.a (.c (.val (g 27))),.a (.c (.val (g 28))),.a (.c (.val (g 29))),.a (.c (.val (g 30))),.a (.c (.val (g 31))),.a (.c (.val (g 32))),.a (.c (.val (g 33))),.a (.c (.val (g 34))),.a (.c (.val (g 35))),.a (.c (.val (g 36))),.a (.c (.val (g 37))),.a (.c (.val (g 38))),.a (.c (.val (g 39))),.a (.c (.val (g 40))),.a (.c (.val (g 41))),.a (.c (.val (g 42))),.a (.c (.val (g 43))),.a (.c (.val (g 44))),.a (.c (.val (g 45))),.a (.c (.val (g 46))),.a (.c (.val (g 47))),.a (.c (.val (g 48)))]
def ssq (G B R C sp:Int)(N m pa pb pc:Nat)(K:Nat):LSm:=fun ts ch kk =>
 (ts.map SV.den=(sqH G B R C sp N m pa pb pc (.il 0) (fun d=>(ts.getD d .undef).den)).map SV.den∧ch=spT0 G B R C sp N m pa pb pc) ∧
  ∀ g ao cap,kk (.exit 0) (sqH G B R C sp N m pa pb pc (.int (K:Int)) g) (spT G B R C sp N m pa pb pc ao K cap)
theorem sqB (G B R C sp:Int)(N m pa pb pc:Nat)(ao:Option Addr)(j cap:Nat)(g:Nat→Value)(NX:List SV→List Ch→Prop)(kx:Exit→List SV→List Ch→Prop):(exCode Tryz.prog {tb:=[(19,sBank)],D:=fun _=>[3]} 400 (theLoop Tryz.f21 0) (sqH G B R C sp N m pa pb pc (.int (j:Int)) g) (spT G B R C sp N m pa pb pc ao j cap) (loopK NX kx))=(
 (fun a:Int=>(fun b:SV=>(fun c:SV=>(fun d:SV=>(fun h:SV=>(fun k:Ch=>(fun l:Bool=>pa=pa∧pa=pa∧rng (R-sp)∧True∧rng (a*(R-sp))∧(l=true→pc=pc∧pa=pa∧rng (R-sp)∧divC ((j:Nat):Int) (R-sp)∧∀ n:Nat,True∧(ao=ao∧j=j∧cap=cap∧n=n∧(∀ o:Nat,true=true)∧apC j 1 8)∧∀(o:Option Addr) (p:Nat),True∧pc=pc∧True∧rng (((j:Nat):Int)+(1:Int))∧NX [vV (g 0),iV sp,pV 0 pa 0,vV (g 3),pV 1 pb 0,vV (g 5),pV 2 pc 0,d,vV (g 8),vV (g 9),vV (g 10),vV (g 11),vV (g 12),vV (g 13),vV (g 14),vV (g 15),vV (g 16),vV (g 17),vV (g 18),vV (g 19),vV (g 20),vV (g 21),vV (g 22),vV (g 23),vV (g 24),vV (g 25),b,h,iV a,pV 0 pa 2,iV R,iV sp,iV (R-sp),c,tV,b,d,pV 2 pc 1,sV 3 ao j cap,b,pV 0 pa 2,iV R,iV sp,iV (R-sp),iV (((j:Nat):Int) % (R-sp)),cV 4 n 1 1,sV 5 o (j+1) p,pV 2 pc 1,vV (g 48)] [k,Hc pb 58 [Cl 0,Cz],Hc pc 58 [Ci sp,Cs 5 o (j+1) p],Hd,Hc n 3 [Ci (((j:Nat):Int) % (R-sp))],Hr true o 3 1 (j+1) p [fun q=>Ci (if q<j then (spF m q) else (((j:Nat):Int) % (R-sp)))]])∧(l=false→kx (Exit.exit 0) [vV (g 0),iV sp,pV 0 pa 0,vV (g 3),pV 1 pb 0,vV (g 5),pV 2 pc 0,b,vV (g 8),vV (g 9),vV (g 10),vV (g 11),vV (g 12),vV (g 13),vV (g 14),vV (g 15),vV (g 16),vV (g 17),vV (g 18),vV (g 19),vV (g 20),vV (g 21),vV (g 22),vV (g 23),vV (g 24),vV (g 25),b,h,iV a,pV 0 pa 2,iV R,iV sp,iV (R-sp),c,fV,vV (g 35),vV (g 36),vV (g 37),vV (g 38),vV (g 39),vV (g 40),vV (g 41),vV (g 42),vV (g 43),vV (g 44),vV (g 45),vV (g 46),vV (g 47),vV (g 48)] [k,Hc pb 58 [Cl 0,Cz],Hc pc 58 [Ci sp,Cs 3 ao j cap],Hr true ao 3 1 j cap [fun n=>Ci (spF m n)]])) (decide (((j:Nat):Int)<(a*(R-sp))))) (Hc pa 38 [Ci G,Ci B,Ci R,Ci C])) (aV [Ci G,Ci B,Ci R,Ci C])) (iV (((j:Nat):Int)+(1:Int)))) (iV (a*(R-sp)))) (iV ((j:Nat):Int))) (bankN G B R C)):=by kernel_rfl
theorem sq_ok (G B R C sp:Int)(N m pa pb pc:Nat)(K:Nat)(hg:geoB G B R C=true)(hN:bankN G B R C=(N:Int))(hm:R-sp=(m:Int))(hb:N≤8∧2≤m∧m≤16∧0≤sp∧sp≤2)(hK:bankN G B R C*(R-sp)=(K:Int))(hk128:K≤128)(X:Cx):LoopOK Tryz.prog X (theLoop Tryz.f21 0) (ssq G B R C sp N m pa pb pc K):=by
 intro ts ch kk a w hS hT hd hs
 obtain ⟨⟨h1,rfl⟩,hk⟩:=hS
 refine loop_ok mixed (E:={ tb:=[(19,sBank)],D:=fun _=>[3] }) ⟨sBank_S,trivial⟩ (loopsOK_nil _ _ _) 400 K (fun j ts ch=>∃ g ao cap,ts=sqH G B R C sp N m pa pb pc (.int (j:Int)) g∧ch=spT G B R C sp N m pa pb pc ao j cap) ?_ ?_ hT hd hs
 ·rintro j _ _ ⟨g,ao,cap,rfl,rfl⟩ hj
  refine (@Eq.mpr _ _ (sqB G B R C sp N m pa pb pc ao j cap g _ _) ?_)
  dsimp -zeta -proj -iota -eta -failIfUnchanged (etaStruct:=.none) only
  by_cases hlt:j<K
  ·have hmod:(j:Int) % (R-sp)=spF m j:=by
    simp only [spF,hm]
    rfl
   repeat' (first
    | with_reducible exact rfl
    | exact True.intro
    | with_reducible assumption
    | (refine ⟨hlt,?_⟩;refine Next.mk (fun g=>sqH G B R C sp N m pa pb pc (.int ((j+1:Nat):Int)) g) _ ⟨_,_,_,rfl,rfl⟩ rfl (fun w hw=>((hw.sel [0,1,2,5] (by simp)).recell 2 rfl [.int sp,.sl 3 _ (j+1) _] rfl).re 3 _ rfl [fun i=>.int (spF m i)] ?_);refine ⟨fun i hi=>?_,trivial⟩)
    | fail
    | refine And.intro ?_ ?_
    | (intro h;replace h:=of_decide_eq_true h;first | (exfalso;omega) | skip)
    | (intro h;replace h:=of_decide_eq_false h;first | (exfalso;omega) | skip)
    | intro _
    | omega
    | (simp;omega))
   all_goals
    rename_i i hi
    have hi:i<j+1:=hi
    simp only [SC.den]
    by_cases e:i<j
    ·simp [e]
    ·have e2:i=j:=by omega
     subst e2
     simp [hmod]
  ·have hjn:j=K:=by omega
   subst hjn
   repeat' (first
    | with_reducible exact rfl
    | exact True.intro
    | with_reducible assumption
    | fail
    | (refine Next.mk (fun g=>sqH G B R C sp N m pa pb pc (.int (j:Int)) g) _ (hk _ _ _) rfl fun w hw=>hw)
    | refine And.intro ?_ ?_
    | (intro h;replace h:=of_decide_eq_true h;first | (exfalso;omega) | skip)
    | (intro h;replace h:=of_decide_eq_false h;first | (exfalso;omega) | skip)
    | intro _
    | omega
    | (simp;omega))
 ·refine Next.mk (fun g=>sqH G B R C sp N m pa pb pc (.int ((0:Nat):Int)) g) _ ⟨_,none,0,rfl,rfl⟩ h1 fun w hw=>?_
  exact (hw.addNil ⟨true,none,3,1,0,0,[fun i=>.int (spF m i)]⟩ rfl rfl rfl rfl rfl).recell 2 rfl [.int sp,.sl 3 none 0 0] rfl
abbrev spC (G B R C sp:Int)(N m:Nat):Prop:=geoB G B R C=true∧bankN G B R C=(N:Int)∧R-sp=(m:Int)∧(N≤8∧2≤m∧m≤16∧0≤sp∧sp≤2)
abbrev sqC (G B R C sp:Int)(N m:Nat)(K:Nat):Prop:=spC G B R C sp N m∧bankN G B R C*(R-sp)=(K:Int)∧K≤128
def ssp (G B R C sp:Int)(N m:Nat):LSm:=fun ts ch kk=>spC G B R C sp N m∧∃ pa pb pc,ssp0 G B R C sp N m pa pb pc ts ch kk
def ssqq (G B R C sp:Int)(N m:Nat)(K:Nat):LSm:=fun ts ch kk=>sqC G B R C sp N m K∧∃ pa pb pc,ssq G B R C sp N m pa pb pc K ts ch kk
theorem ssp_ok (G B R C sp:Int)(N m:Nat)(X:Cx):LoopOK Tryz.prog X (theLoop Tryz.f37 0) (ssp G B R C sp N m):=by
 rintro ts ch kk a w ⟨⟨h1,h2,h3,h4⟩,pa,pb,pc,hS⟩ hT hd hs
 exact sp0_ok G B R C sp N m pa pb pc h1 h2 h3 h4 X ts ch kk a w hS hT hd hs
theorem ssqq_ok (G B R C sp:Int)(N m:Nat)(K:Nat)(X:Cx):LoopOK Tryz.prog X (theLoop Tryz.f21 0) (ssqq G B R C sp N m K):=by
 rintro ts ch kk a w ⟨⟨⟨h1,h2,h3,h4⟩,h5,h6⟩,pa,pb,pc,hS⟩ hT hd hs
 exact sq_ok G B R C sp N m pa pb pc K h1 h2 h3 h4 h5 h6 X ts ch kk a w hS hT hd hs
def spOk (G B R C sp:Int):Bool:=geoB G B R C&&btw sp 0 2&&decide (2≤R-sp)
def spK (G B R C sp:Int):Nat:=(bankN G B R C).toNat*(R-sp).toNat
def spM (R sp:Int):Nat:=(R-sp).toNat
def spN (G B R C:Int):Nat:=(bankN G B R C).toNat
theorem btw_facts' {x lo hi:Int}(h:btw x lo hi=true):lo≤x∧x≤hi:=by simp [btw] at h;omega
theorem sp_facts {G B R C sp:Int}(h:spOk G B R C sp=true):sqC G B R C sp (spN G B R C) (spM R sp) (spK G B R C sp):=by
 simp only [spOk,Bool.and_eq_true,btw,decide_eq_true_eq] at h
 obtain ⟨⟨hg,hs⟩,h2⟩:=h
 have hf:=geo_facts hg
 have hb:=geo_bank hg
 have hn:bankN G B R C=G*B:=by simp [bankN,hg]
 have e1:bankN G B R C=((spN G B R C:Nat):Int):=by
  show _=(((bankN G B R C).toNat:Nat):Int)
  rw [hn];omega
 have e2:R-sp=((spM R sp:Nat):Int):=by
  show _=(((R-sp).toNat:Nat):Int)
  omega
 refine ⟨⟨hg,e1,e2,?_,?_,?_,hs.1,hs.2⟩,?_,?_⟩
 ·omega
 ·omega
 ·omega
 ·show _=(((spN G B R C)*(spM R sp):Nat):Int)
  rw [e1,e2]
  simp
 ·show spN G B R C*spM R sp≤128
  exact Nat.le_trans (Nat.mul_le_mul (show spN G B R C≤8 by omega) (show spM R sp≤16 by omega)) (by omega)
theorem spareI_T (G B R C sp:Int):(exFn Tryz.prog { tb:=[(102,sGeo),(106,sBtw),(39,sBank)],L:=[(5,ssp G B R C sp (spN G B R C) (spM R sp))] } 400 Tryz.f37 ([.a (.agg [.int G,.int B,.int R,.int C]),.a (.c (.int sp))]) ([]) (fun v ch=>∃ (ro0:Option Addr) (rc0:Nat),OutR v ch (.tuple #[.agg #[.int .i64 (ifZ (spOk G B R C sp) sp),.slice ro0 (ifN (spOk G B R C sp) (spK G B R C sp)) rc0],.bool (spOk G B R C sp)]) [.row ⟨true,ro0,3,1,ifN (spOk G B R C sp) (spK G B R C sp),rc0,[fun i=>.int (spF (spM R sp) i)]⟩]))=(
 (fun b:Value=>(fun d:Value=>(fun g:Value=>(fun h:Bool=>(fun j:Bool=>(fun k:Value=>(fun l:Nat=>(fun m:Bool=>(fun n:Bool=>(fun o:Value=>(fun p:Value=>(fun q:Value=>(fun r:Value=>(fun s:Nat=>(fun t:Prop=>∀ u w:Nat,(fun x:Prop=>u=u∧(j=false→(n=false→u=u∧rng (R-sp)∧(m=true→x)∧(m=false→∀ y:Nat,y=y∧spC G B R C sp (spN G B R C) (spM R sp)∧∃ z D E:Nat,([r,d,Wp u 0,b,Wp w 0,g,Wp y 0,Wi 0,b,r,Wb (geoB G B R C),Wb j,g,d,o,q,q,g,Wp u 2,Wi R,d,Wi (R-sp),p,g,b,d,Wa [d,Wn],b,b,b,b,b,b,b,b,b,b,b,b,b,b,b,b,b,b,b,b,b]=[r,d,Wp z 0,b,Wp D 0,g,Wp E 0,Wi 0,b,r,Wb (geoB G B R C),Wb j,g,d,o,q,q,g,Wp u 2,Wi R,d,Wi (R-sp),p,g,b,d,Wa [d,Wn],b,b,b,b,b,b,b,b,b,b,b,b,b,b,b,b,b,b,b,b,b]∧[Hc u 38 [Ci G,Ci B,Ci R,Ci C],Hc w 58 [Cl 0,Cz],Hc y 58 [Ci sp,Cz]]=[Hc z 38 [Ci G,Ci B,Ci R,Ci C],Hc D 58 [Cl 0,Cz],Hc E 58 [Ci sp,Cz]])∧∀(F:Nat→Value) (H:Option Addr) (I:Nat),E=E∧D=D∧D=D∧∃(J:Option Addr) (K:Nat),(Wu [Wa [d,Ws H l I],Wb true])=(Wu [Wa [k,Ws J s K],Wb h])∧((true=true∧H=J∧3=3∧1=1∧l=s∧I=K∧(∀ M:Nat,M<l→(Wi (spF (spM R sp) M))=(Wi (spF (spM R sp) M)))∧True)∧True)∧true=true))∧(n=true→x))∧(j=true→x)) (w=w∧w=w∧t)) (∃(t:Option Addr) (u:Nat),(Wu [Wa [Wi 0,Wn],g])=(Wu [Wa [k,Ws t s u],Wb h])∧((true=true∧(none:Option Addr)=t∧0=s∧0=u∧true=true)∧True)∧true=true)) (ifN h (spK G B R C sp))) (Wa [Wi G,Wi B,Wi R,Wi C])) (Wb n)) (Wb m)) (Wb (btw sp (0:Int) (2:Int)))) (! (btw sp (0:Int) (2:Int)))) (decide ((R-sp)<(2:Int)))) (mulN (spN G B R C) (spM R sp))) (Wi (ifZ h sp))) (! (geoB G B R C))) (spOk G B R C sp)) (Wb false)) (Wi sp)) (Wu [])):=by kernel_rfl
theorem spareI_any (G B R C sp:Int)(w:World)(hr:-9223372036854775808≤R∧R≤9223372036854775807):Calls Tryz.prog 37 #[.agg #[.int .i64 G,.int .i64 B,.int .i64 R,.int .i64 C],.int .i64 sp] w fun e w'=>∃ (ro0:Option Addr) (rc0:Nat),e=.returned (.tuple #[.agg #[.int .i64 (ifZ (spOk G B R C sp) sp),.slice ro0 (ifN (spOk G B R C sp) (spK G B R C sp)) rc0],.bool (spOk G B R C sp)])∧HS ⟨w,fun _=>False⟩ [.row ⟨true,ro0,3,1,ifN (spOk G B R C sp) (spK G B R C sp),rc0,[fun i=>.int (spF (spM R sp) i)]⟩] w':=by
 refine fn_ok mixed (E:={ tb:=[(102,sGeo),(106,sBtw),(39,sBank)],L:=[(5,ssp G B R C sp (spN G B R C) (spM R sp))] }) ⟨sGeo_I,sBtwI_ok,sBank_I,trivial⟩ Tryz.func37 (first_loop (rest:=[8]) (by kernel_rfl) (by simp) (ssp_ok G B R C sp _ _ _)) (@Eq.mpr _ _ (spareI_T G B R C sp) ?_) (HS.start w (fun _=>False)) (fun v ch' w' ⟨ro,rc,hk⟩ hs=>⟨ro,rc,by rw [hk.1],hk.hs hs⟩)
 dsimp -zeta -proj -iota -eta -failIfUnchanged (etaStruct:=.none) only
 cases hg:geoB G B R C
 ·have hok:spOk G B R C sp=false:=by simp [spOk,hg]
  repeat' (first
   | with_reducible exact rfl
   | exact True.intro
   | with_reducible assumption
   | refine And.intro ?_ ?_
   | apply Exists.intro
   | (intro h;exfalso;simp [hg] at h;done)
   | (intro h;exfalso;simp [hg] at h;omega)
   | intro _
   | omega
   | (simp;omega))
  all_goals simp_all [ifN,ifZ]
 ·have hf:=geo_facts hg
  cases hb:btw sp 0 2
  ·have hok:spOk G B R C sp=false:=by simp [spOk,hb]
   repeat' (first
    | with_reducible exact rfl
    | exact True.intro
    | with_reducible assumption
    | refine And.intro ?_ ?_
    | apply Exists.intro
    | (intro h;exfalso;simp [hg,hb] at h;done)
    | (intro h;exfalso;simp [hg,hb] at h;omega)
    | intro _
    | omega
    | (simp;omega))
   all_goals simp_all [ifN,ifZ]
  ·have hsp:=btw_facts' hb
   by_cases h2:2≤R-sp
   ·have hok:spOk G B R C sp=true:=by simp [spOk,hg,hb,h2]
    have hc:=sp_facts hok
    have hc2:=hc.1
    have hK:ifN (spOk G B R C sp) (spK G B R C sp)=mulN (spN G B R C) (spM R sp):=by simp only [hok,ifN];rfl
    have hK2:ifN (spOk G B R C sp) (spK G B R C sp)=spK G B R C sp:=by simp only [hok,ifN];rfl
    repeat' (first
     | with_reducible exact rfl
     | exact True.intro
     | with_reducible assumption
     | refine And.intro ?_ ?_
     | apply Exists.intro
     | (intro h;exfalso;simp [hg,hb] at h;done)
     | (intro h;exfalso;simp [hg,hb] at h;omega)
     | intro _
     | omega
     | (simp;omega))
    all_goals (first | (simp only [hK];done) | (simp only [hK2];done) | (simp_all [ifN,ifZ];done) | (simp only [hok,hK2,ifZ];done) | (simp only [hok,hK,ifZ];rfl) | (simp only [hok,hK2,ifZ];rfl))
   ·have hok:spOk G B R C sp=false:=by simp [spOk,h2]
    repeat' (first
     | with_reducible exact rfl
     | exact True.intro
     | with_reducible assumption
     | refine And.intro ?_ ?_
     | apply Exists.intro
     | (intro h;exfalso;simp [hg,hb] at h;done)
     | (intro h;exfalso;simp [hg,hb] at h;omega)
     | intro _
     | omega
     | (simp;omega))
    all_goals simp_all [ifN,ifZ]
theorem spareS_T (G B R C sp:Int):(exFn Tryz.prog { tb:=[(93,sGeo),(97,sBtw),(19,sBank)],L:=[(5,ssqq G B R C sp (spN G B R C) (spM R sp) (spK G B R C sp))] } 400 Tryz.f21 ([.a (.agg [.int G,.int B,.int R,.int C]),.a (.c (.int sp))]) ([]) (fun v ch=>∃ (ro0:Option Addr) (rc0:Nat),OutR v ch (.tuple #[.agg #[.int .i64 (ifZ (spOk G B R C sp) sp),.slice ro0 (ifN (spOk G B R C sp) (spK G B R C sp)) rc0],.bool (spOk G B R C sp)]) [.row ⟨true,ro0,3,1,ifN (spOk G B R C sp) (spK G B R C sp),rc0,[fun i=>.int (spF (spM R sp) i)]⟩]))=(
 (fun b:Value=>(fun d:Value=>(fun g:Value=>(fun h:Nat=>(fun j:Bool=>(fun k:Bool=>(fun l:Value=>(fun m:Bool=>(fun n:Bool=>(fun o:Value=>(fun p:Value=>(fun q:Value=>(fun r:Value=>(fun s:Nat=>(fun t:Prop=>∀ u w:Nat,(fun x:Prop=>u=u∧(k=false→(n=false→u=u∧rng (R-sp)∧(m=true→x)∧(m=false→∀ y:Nat,y=y∧sqC G B R C sp (spN G B R C) (spM R sp) h∧∃ z D E:Nat,([r,d,Wp u 0,b,Wp w 0,g,Wp y 0,Wi 0,r,Wb (geoB G B R C),Wb k,g,d,o,q,q,g,Wp u 2,Wi R,d,Wi (R-sp),p,g,b,d,Wa [d,Wn],b,b,b,b,b,b,b,b,b,b,b,b,b,b,b,b,b,b,b,b,b,b,b]=[r,d,Wp z 0,b,Wp D 0,g,Wp E 0,Wi 0,r,Wb (geoB G B R C),Wb k,g,d,o,q,q,g,Wp u 2,Wi R,d,Wi (R-sp),p,g,b,d,Wa [d,Wn],b,b,b,b,b,b,b,b,b,b,b,b,b,b,b,b,b,b,b,b,b,b,b]∧[Hc u 38 [Ci G,Ci B,Ci R,Ci C],Hc w 58 [Cl 0,Cz],Hc y 58 [Ci sp,Cz]]=[Hc z 38 [Ci G,Ci B,Ci R,Ci C],Hc D 58 [Cl 0,Cz],Hc E 58 [Ci sp,Cz]])∧∀(F:Nat→Value) (H:Option Addr) (I:Nat),E=E∧D=D∧D=D∧∃(J:Option Addr) (K:Nat),(Wu [Wa [d,Ws H h I],Wb true])=(Wu [Wa [l,Ws J s K],Wb j])∧((true=true∧H=J∧3=3∧1=1∧h=s∧I=K∧(∀ M:Nat,M<h→(Wi (spF (spM R sp) M))=(Wi (spF (spM R sp) M)))∧True)∧True)∧true=true))∧(n=true→x))∧(k=true→x)) (w=w∧w=w∧t)) (∃(t:Option Addr) (u:Nat),(Wu [Wa [Wi 0,Wn],g])=(Wu [Wa [l,Ws t s u],Wb j])∧((true=true∧(none:Option Addr)=t∧0=s∧0=u∧true=true)∧True)∧true=true)) (ifN j h)) (Wa [Wi G,Wi B,Wi R,Wi C])) (Wb n)) (Wb m)) (Wb (btw sp (0:Int) (2:Int)))) (! (btw sp (0:Int) (2:Int)))) (decide ((R-sp)<(2:Int)))) (Wi (ifZ j sp))) (! (geoB G B R C))) (spOk G B R C sp)) (spK G B R C sp)) (Wb false)) (Wi sp)) (Wu [])):=by kernel_rfl
theorem spareS_any (G B R C sp:Int)(w:World)(hr:-9223372036854775808≤R∧R≤9223372036854775807):Calls Tryz.prog 21 #[.agg #[.int .i64 G,.int .i64 B,.int .i64 R,.int .i64 C],.int .i64 sp] w fun e w'=>∃ (ro0:Option Addr) (rc0:Nat),e=.returned (.tuple #[.agg #[.int .i64 (ifZ (spOk G B R C sp) sp),.slice ro0 (ifN (spOk G B R C sp) (spK G B R C sp)) rc0],.bool (spOk G B R C sp)])∧HS ⟨w,fun _=>False⟩ [.row ⟨true,ro0,3,1,ifN (spOk G B R C sp) (spK G B R C sp),rc0,[fun i=>.int (spF (spM R sp) i)]⟩] w':=by
 refine fn_ok mixed (E:={ tb:=[(93,sGeo),(97,sBtw),(19,sBank)],L:=[(5,ssqq G B R C sp (spN G B R C) (spM R sp) (spK G B R C sp))] }) ⟨sGeo_S,sBtwS_ok,sBank_S,trivial⟩ Tryz.func21 (first_loop (rest:=[]) (by kernel_rfl) (by simp) (ssqq_ok G B R C sp _ _ _ _)) (@Eq.mpr _ _ (spareS_T G B R C sp) ?_) (HS.start w (fun _=>False)) (fun v ch' w' ⟨ro,rc,hk⟩ hs=>⟨ro,rc,by rw [hk.1],hk.hs hs⟩)
 dsimp -zeta -proj -iota -eta -failIfUnchanged (etaStruct:=.none) only
 cases hg:geoB G B R C
 ·have hok:spOk G B R C sp=false:=by simp [spOk,hg]
  repeat' (first
   | with_reducible exact rfl
   | exact True.intro
   | with_reducible assumption
   | refine And.intro ?_ ?_
   | apply Exists.intro
   | (intro h;exfalso;simp [hg] at h;done)
   | (intro h;exfalso;simp [hg] at h;omega)
   | intro _
   | omega
   | (simp;omega))
  all_goals simp_all [ifN,ifZ]
 ·have hf:=geo_facts hg
  cases hb:btw sp 0 2
  ·have hok:spOk G B R C sp=false:=by simp [spOk,hb]
   repeat' (first
    | with_reducible exact rfl
    | exact True.intro
    | with_reducible assumption
    | refine And.intro ?_ ?_
    | apply Exists.intro
    | (intro h;exfalso;simp [hg,hb] at h;done)
    | (intro h;exfalso;simp [hg,hb] at h;omega)
    | intro _
    | omega
    | (simp;omega))
   all_goals simp_all [ifN,ifZ]
  ·have hsp:=btw_facts' hb
   by_cases h2:2≤R-sp
   ·have hok:spOk G B R C sp=true:=by simp [spOk,hg,hb,h2]
    have hc:=sp_facts hok
    have hc2:=hc.1
    have hK:ifN (spOk G B R C sp) (spK G B R C sp)=mulN (spN G B R C) (spM R sp):=by simp only [hok,ifN];rfl
    have hK2:ifN (spOk G B R C sp) (spK G B R C sp)=spK G B R C sp:=by simp only [hok,ifN];rfl
    repeat' (first
     | with_reducible exact rfl
     | exact True.intro
     | with_reducible assumption
     | refine And.intro ?_ ?_
     | apply Exists.intro
     | (intro h;exfalso;simp [hg,hb] at h;done)
     | (intro h;exfalso;simp [hg,hb] at h;omega)
     | intro _
     | omega
     | (simp;omega))
    all_goals (first | (simp only [hK];done) | (simp only [hK2];done) | (simp_all [ifN,ifZ];done) | (simp only [hok,hK2,ifZ];done) | (simp only [hok,hK,ifZ];rfl) | (simp only [hok,hK2,ifZ];rfl))
   ·have hok:spOk G B R C sp=false:=by simp [spOk,h2]
    repeat' (first
     | with_reducible exact rfl
     | exact True.intro
     | with_reducible assumption
     | refine And.intro ?_ ?_
     | apply Exists.intro
     | (intro h;exfalso;simp [hg,hb] at h;done)
     | (intro h;exfalso;simp [hg,hb] at h;omega)
     | intro _
     | omega
     | (simp;omega))
    all_goals simp_all [ifN,ifZ]
end Go.Proofs.YtbhfabaofhhkeaaGreat
