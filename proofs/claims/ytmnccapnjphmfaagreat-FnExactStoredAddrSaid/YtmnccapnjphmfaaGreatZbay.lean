/-
  FnExactStoredAddr: a part of the walk (merged and squeezed by program: SxPrN).
-/
import Derived.Test.YtmnccapnjphmfaaGreatZbau
import Derived.Test.YtmnccapnjphmfaaGreatZbax
namespace Go.Proofs.YtmnccapnjphmfaaGreat
set_option linter.unusedVariables false
set_option linter.unusedSimpArgs false
open Go.RowKit
set_option maxRecDepth 100000
set_option maxHeartbeats 8000000
def crC (n:Nat)(f:Nat→Int)(x:Int):Int:=((cntB n (fun k=>ieq (f k) x):Nat):Int)
def crH (ao:Option Addr)(n c:Nat)(f:Nat→Int)(x:Int)(y i:SC)(g:Nat→Value):List SV:=hdN [(0,.a (.c (.sl 0 ao n c))),(1,.a (.c (.int x))),(5,.a (.c y)),(8,.a (.c (.sl 0 ao n c))),(9,.a (.c (.int (n:Int)))),(10,.a (.c i))] g 0 21
theorem crC_succ (n:Nat)(f:Nat→Int)(x:Int):crC (n+1) f x=crC n f x+(if ieq (f n) x=true then 1 else 0):=by
 simp only [crC,cntB]
 split <;> simp
theorem crC_le (n:Nat)(f:Nat→Int)(x:Int):0≤crC n f x∧crC n f x≤(n:Int):=by
 have:=cntB_le (p:=fun k=>ieq (f k) x) (n:=n)
 simp only [crC]
 omega
def scr (ao:Option Addr)(n c:Nat)(f:Nat→Int)(x:Int):LSm:=fun ts ch kk=>(ts.map SV.den=(crH ao n c f x (.il 0) (.il 0) (fun d=>(ts.getD d .undef).den)).map SV.den∧selC ch [0]=[.row ⟨false,ao,0,1,n,0,[fun i=>.int (f i)]⟩])∧∀ g,kk (.exit 0) (crH ao n c f x (.int (crC n f x)) (.int (n:Int)) g) [.row ⟨false,ao,0,1,n,0,[fun i=>.int (f i)]⟩]
theorem crB (ao:Option Addr)(n c:Nat)(f:Nat→Int)(x:Int)(j:Nat)(g:Nat→Value)(NX:List SV→List Ch→Prop)(kx:Exit→List SV→List Ch→Prop):(exCode Tryz.prog {} 400 (theLoop Tryz.f139 0) (crH ao n c f x (.int (crC j f x)) (.int (j:Int)) g) ([.row ⟨false,ao,0,1,n,0,[fun i=>.int (f i)]⟩]) (loopK NX kx))=(
 (fun a:SV=>(fun b:SV=>(fun d:SV=>(fun h:SV=>(fun k:SV=>(fun l:SV=>(fun m:List Ch=>(fun o:Bool=>(o=true→ao=ao∧n=n∧(0≤((j:Nat):Int)∧((j:Nat):Int)<((n:Nat):Int))∧ao=ao∧j<n∧(((f j) == x)=true→rng ((crC j f x)+(1:Int))∧rng (((j:Nat):Int)+(1:Int))∧NX [b,iV x,vV (g 2),vV (g 3),vV (g 4),k,vV (g 6),a,b,h,l,tV,rV 0 ao 1 j 0,a,a,iV x,tV,d,k,l,vV (g 20)] m)∧(((f j) == x)=false→rng (((j:Nat):Int)+(1:Int))∧NX [b,iV x,vV (g 2),vV (g 3),vV (g 4),d,vV (g 6),a,b,h,l,tV,rV 0 ao 1 j 0,a,a,iV x,fV,vV (g 17),vV (g 18),l,vV (g 20)] m))∧(o=false→kx (Exit.exit 0) [b,iV x,vV (g 2),vV (g 3),vV (g 4),d,vV (g 6),vV (g 7),b,h,iV ((j:Nat):Int),fV,vV (g 12),vV (g 13),vV (g 14),vV (g 15),vV (g 16),vV (g 17),vV (g 18),vV (g 19),vV (g 20)] m)) (decide (((j:Nat):Int)<((n:Nat):Int)))) [Hr false ao 0 1 n 0 [fun m=>Ci (f m)]]) (iV (((j:Nat):Int)+(1:Int)))) (iV ((crC j f x)+(1:Int)))) (iV ((n:Nat):Int))) (iV (crC j f x))) (sV 0 ao n c)) (iV (f j))):=by kernel_rfl
theorem cr_ok (ao:Option Addr)(n c:Nat)(f:Nat→Int)(x:Int)(hn:n≤9223372036854775807)(X:Cx):LoopOK Tryz.prog X (theLoop Tryz.f139 0) (scr ao n c f x):=by
 intro ts ch kk a w hS hT hd hs
 obtain ⟨⟨h1,hch⟩,hk⟩:=hS
 refine loop_ok mixed (E:={}) trivial (loopsOK_nil _ _ _) 400 n (fun j ts ch=>∃ g,ts=crH ao n c f x (.int (crC j f x)) (.int (j:Int)) g∧ch=[.row ⟨false,ao,0,1,n,0,[fun i=>.int (f i)]⟩]) ?_ ?_ hT hd hs
 ·rintro j _ _ ⟨g,rfl,rfl⟩ hj
  refine @Eq.mpr _ _ (crB ao n c f x j g _ _) ?_
  dsimp -zeta -proj -iota -eta -failIfUnchanged (etaStruct:=.none) only
  have hc:=crC_le j f x
  obtain ⟨hc1,hc2⟩:=hc
  by_cases hlt:j<n
  ·have hjn:(0:Int)≤(j:Int)∧(j:Int)<(n:Int):=⟨by omega,by omega⟩
   clear h1
   cases hp:ieq (f j) x
   all_goals have hs:=crC_succ j f x
   all_goals simp only [hp,if_true] at hs
   ·have hs2:crC (j+1) f x=crC j f x:=by rw [hs];simp
    clear hs
    repeat' (first
     | with_reducible exact rfl
     | exact True.intro
     | with_reducible assumption
     | (refine ⟨hlt,?_⟩;show Next _ _ _ _;exact Next.mk (fun g=>crH ao n c f x (.int (crC (j+1) f x)) (.int ((j+1:Nat):Int)) g) _ ⟨_,rfl,rfl⟩ (by rw [hs2];rfl) fun w hw=>hw.sel [0] (by simp))
     | refine And.intro ?_ ?_
     | apply Exists.intro
     | (refine fun (h:@Eq Bool _ _)=>?_;exfalso;first | (simp [hp] at h;done) | (simp [hp] at h;omega))
     | intro _
     | omega
     | exact rfl)
   ·repeat' (first
     | with_reducible exact rfl
     | exact True.intro
     | with_reducible assumption
     | (refine ⟨hlt,?_⟩;show Next _ _ _ _;exact Next.mk (fun g=>crH ao n c f x (.int (crC (j+1) f x)) (.int ((j+1:Nat):Int)) g) _ ⟨_,rfl,rfl⟩ (by rw [hs];rfl) fun w hw=>hw.sel [0] (by simp))
     | refine And.intro ?_ ?_
     | apply Exists.intro
     | (refine fun (h:@Eq Bool _ _)=>?_;exfalso;first | (simp [hp] at h;done) | (simp [hp] at h;omega))
     | intro _
     | omega
     | exact rfl)
  ·have hjn:j=n:=by omega
   subst hjn
   repeat' (first
    | with_reducible exact rfl
    | exact True.intro
    | with_reducible assumption
    | (exact Next.mk (fun g=>crH ao j c f x (.int (crC j f x)) (.int (j:Int)) g) _ (hk _) rfl fun w hw=>hw.sel [0] (by simp))
    | refine And.intro ?_ ?_
    | apply Exists.intro
    | (refine fun (h:@Eq Bool _ _)=>?_;exfalso;first | (simp [] at h;done) | (simp [] at h;omega))
    | intro _
    | omega
    | exact rfl)
 ·refine Next.mk (fun g=>crH ao n c f x (.int (crC 0 f x)) (.int ((0:Nat):Int)) g) _ ⟨_,rfl,rfl⟩ h1 fun w hw=>?_
  rw [← hch]
  exact hw.sel [0] (by simp)
theorem crF_T (ao:Option Addr)(n c:Nat)(f:Nat→Int)(x:Int):(exFn Tryz.prog {tb:=[],L:=[(3,scr ao n c f x)]} 400 Tryz.f139 ([.a (.c (.sl 0 ao n c)),.a (.c (.int x))]) ([.row ⟨false,ao,0,1,n,0,[fun i=>.int (f i)]⟩]) (fun y_ _=>y_.den=.int .i64 (crC n f x)))=(
 ([Ws ao n c,Wi x,Wu [],Wu [],Wi 0,Wi 0,Wu [],Wu [],Ws ao n c,Wi ((n:Nat):Int),Wi 0,Wu [],Wu [],Wu [],Wu [],Wu [],Wu [],Wu [],Wu [],Wu [],Wu []]=[Ws ao n c,Wi x,Wu [],Wu [],Wi 0,Wi 0,Wu [],Wu [],Ws ao n c,Wi ((n:Nat):Int),Wi 0,Wu [],Wu [],Wu [],Wu [],Wu [],Wu [],Wu [],Wu [],Wu [],Wu []]∧[Hr false ao 0 1 n 0 [fun b=>Ci (f b)]]=[Hr false ao 0 1 n 0 [fun b=>Ci (f b)]])∧∀ b:Nat→Value,(Wi (crC n f x))=(Wi (crC n f x))):=by kernel_rfl
theorem crF_any (ao:Option Addr)(n c:Nat)(f:Nat→Int)(x:Int)(w:World)(hn:n≤9223372036854775807)(h0:Row.sat w ⟨false,ao,0,1,n,0,[fun i=>.int (f i)]⟩):Calls Tryz.prog 139 #[.slice ao n c,.int .i64 x] w fun e w'=>e=.returned (.int .i64 (crC n f x))∧Below w.heap.size w w':=by
 refine fn_ok mixed (E:={tb:=[],L:=[(3,scr ao n c f x)]}) trivial Tryz.func139 (one_loop (by kernel_rfl) (by kernel_rfl) (cr_ok ao n c f x hn _)) (@Eq.mpr _ _ (crF_T ao n c f x) ?_) (HS.rows (fun _=>False) [⟨false,ao,0,1,n,0,[fun i=>.int (f i)]⟩] (by simpa using h0)) (fun v ch' w' hv hs=>⟨by rw [hv],hs.below⟩)
 clear h0
 repeat' (first
  | with_reducible exact rfl
  | exact True.intro
  | with_reducible assumption
  | refine And.intro ?_ ?_
  | apply Exists.intro
  | (refine fun (h:@Eq Bool _ _)=>?_;exfalso;first | (simp [] at h;done) | (simp [] at h;omega))
  | intro _
  | omega
  | exact rfl)
def sCr:Sm:=fun args ch kk =>
 match args with
 | [.a (.c y),.a (.c z)] =>
  match ints [z] with
  | some [x]=>rdn ch y fun n f=>(lenC n)∧kk (.a (.c (.int (crC n f x)))) ch []
  | _=>False
 | _=>False
theorem sCr_I:SmOK Tryz.prog 139 sCr:=by
 refine smB Tryz.call139 fun args ch kk w X h0 hs=>?_
 unfold sCr at h0
 split at h0
 ·split at h0
  ·rename_i x hi
   obtain ⟨qx,hi⟩:=ints_cons hi
   obtain ⟨ao,n,c,f,em,hr,h0⟩:=rdn_ok h0 hs
   obtain ⟨hn,h0⟩:=h0
   refine ⟨_,h0,?_⟩
   simp only [List.map_cons,List.map_nil,den_a,den_c,SA.den,em,qx]
   exact crF_any ao n c f x w hn hr
  ·exact h0.elim
 ·exact h0.elim
def bkB (m:Nat)(h:Nat→Int)(R sp:Int)(r:Nat):Bool:=ieq (h r) (r:Int) || (btw (h r) (R-sp) (R-1)&&!decide (1<crC m h (h r)))
abbrev spCn (n c N M:Nat)(sp G B R K:Int):Prop:=bankN G B R K=(N:Int)∧R-sp=(M:Int)∧n=N*M∧(N≤8∧2≤M∧M≤16)∧(2≤R∧R≤16)∧n≤c
def swKH (ao:Option Addr)(n c:Nat)(f:Nat→Int)(sp G B R K:Int)(N M:Nat)(bg bs q:Nat)(a2:Option Addr)(m d:Nat)(h:Nat→Int)(i:SC)(g:Nat→Value):List SV:=hdN [(2,.a (.c (.ptr 1 bg 0))),(3,.a (.c (.ptr 2 bs 0))),(7,.a (.c (.int (isub R sp)))),(8,.a (.c (.int (q:Int)))),(9,.a (.c (.sl 3 a2 m d))),(45,.a (.c (.sl 3 a2 m d))),(46,.a (.c (.int (m:Int)))),(47,.a (.c i))] g 0 71
def swKR (ao:Option Addr)(n c:Nat)(f:Nat→Int)(sp G B R K:Int)(N M:Nat)(bg bs q:Nat)(a2:Option Addr)(m d:Nat)(h:Nat→Int)(j:Nat)(g:Nat→Value):List SV:=hdN [(4,.a (.c (.lit false)))] g 0 71
def swKT (ao:Option Addr)(n c:Nat)(f:Nat→Int)(sp G B R K:Int)(N M:Nat)(bg bs q:Nat)(a2:Option Addr)(m d:Nat)(h:Nat→Int):List Ch:=[.row ⟨false,ao,0,1,n,0,[fun i=>.int (f i)]⟩,.cells bg 68 [.int G,.int B,.int R,.int K],.cells bs 86 [.int sp,.sl 0 ao n c],.row ⟨false,a2,0,1,m,0,[fun i=>.int (h i)]⟩]
def swKP (ao:Option Addr)(n c:Nat)(f:Nat→Int)(sp G B R K:Int)(N M:Nat)(bg bs q:Nat)(a2:Option Addr)(m d:Nat)(h:Nat→Int)(j:Nat):Bool:=bkB m h R sp j
def sswK (ao:Option Addr)(n c:Nat)(f:Nat→Int)(sp G B R K:Int)(N M:Nat)(bg bs q:Nat)(a2:Option Addr)(m d:Nat)(h:Nat→Int):LSm:=fun ts ch k =>
 (ts.map SV.den=(swKH ao n c f sp G B R K N M bg bs q a2 m d h (.il 0) (fun d=>(ts.getD d .undef).den)).map SV.den∧selC ch [0,1,2,5]=swKT ao n c f sp G B R K N M bg bs q a2 m d h) ∧
  (∀ g,allB m (swKP ao n c f sp G B R K N M bg bs q a2 m d h)=true→k (.exit 2) (swKH ao n c f sp G B R K N M bg bs q a2 m d h (.int (m:Int)) g) (swKT ao n c f sp G B R K N M bg bs q a2 m d h))∧(∀ g j,ltN j m→allB j (swKP ao n c f sp G B R K N M bg bs q a2 m d h)=true→swKP ao n c f sp G B R K N M bg bs q a2 m d h j=false→k .ret (swKR ao n c f sp G B R K N M bg bs q a2 m d h j g) (swKT ao n c f sp G B R K N M bg bs q a2 m d h))
theorem swKB (ao:Option Addr)(n c:Nat)(f:Nat→Int)(sp G B R K:Int)(N M:Nat)(bg bs q:Nat)(a2:Option Addr)(m d:Nat)(h:Nat→Int)(j:Nat)(g:Nat→Value)(NX:List SV→List Ch→Prop)(kx:Exit→List SV→List Ch→Prop):(exCode Tryz.prog {tb:=[(61,sBtw),(139,sCr)]} 400 (theLoop Tryz.f65 1) (swKH ao n c f sp G B R K N M bg bs q a2 m d h (.int (j:Int)) g) (swKT ao n c f sp G B R K N M bg bs q a2 m d h) (loopK NX kx))=(
 (fun a:SV=>(fun b:SV=>(fun k:SV=>(fun l:SV=>(fun o:SV=>(fun p:SV=>(fun r:SV=>(fun s:SV=>(fun t:SV=>(fun u:SV=>(fun v:SV=>(fun w:SV=>(fun x:SV=>(fun y:SV=>(fun z:SV=>(fun C:SV=>(fun D:SV=>(fun E:SV=>(fun F:SV=>(fun H:SV=>(fun I:SV=>(fun J:SV=>(fun L:SV=>(fun O:SV=>(fun P:SV=>(fun Q:SV=>(fun S:SV=>(fun T:SV=>(fun U:SV=>(fun V:SV=>(fun W:SV=>(fun X:SV=>(fun Y:SV=>(fun Z:SV=>(fun aa:SV=>(fun ab:SV=>(fun ac:SV=>(fun ad:SV=>(fun af:SV=>(fun ag:SV=>(fun ah:SV=>(fun aj:SV=>(fun ak:SV=>(fun al:SV=>(fun am:SV=>(fun an:SV=>(fun ap:SV=>(fun aq:Bool=>(fun ar:SV=>(fun au:Bool=>(fun av:SV=>(fun aw:Bool=>(fun ax:SV=>(fun ay:SV=>(fun az:Bool=>(fun aA:List Ch=>(az=true→a2=a2∧m=m∧(0≤((j:Nat):Int)∧((j:Nat):Int)<((m:Nat):Int))∧a2=a2∧j<m∧(aq=true→bg=bg∧rng (R-(1:Int))∧(aw=false→∃ aB:Nat→Int,(fun aC:Int=>(fun aD:Bool=>(fun aE:SV=>(a2=a2∧m=m∧[fun aF=>Ci (h aF)]=[fun aF=>Ci (aB aF)])∧lenC m∧(aD=true→kx Exit.ret [o,l,ag,af,fV,k,b,aj,ap,ah,an,a,ad,ac,ab,aa,Z,Y,X,W,V,U,T,S,Q,P,O,L,J,I,H,F,E,D,C,z,y,x,w,v,u,t,s,r,p,ah,am,an,tV,an,ak,a,a,an,ar,tV,a,aj,pV 1 bg 2,iV R,al,ax,ay,fV,ah,a,iV aC,aE,aE,tV,vV (g 70)] aA)∧(aD=false→rng (((j:Nat):Int)+(1:Int))∧NX [o,l,ag,af,vV (g 4),k,b,aj,ap,ah,an,a,ad,ac,ab,aa,Z,Y,X,W,V,U,T,S,Q,P,O,L,J,I,H,F,E,D,C,z,y,x,w,v,u,t,s,r,p,ah,am,av,tV,an,ak,a,a,an,ar,tV,a,aj,pV 1 bg 2,iV R,al,ax,ay,fV,ah,a,iV aC,aE,aE,fV,av] aA)) (bV aD)) (decide (aC > (1:Int)))) (crC m aB (h j)))∧(aw=true→kx Exit.ret [o,l,ag,af,fV,k,b,aj,ap,ah,an,a,ad,ac,ab,aa,Z,Y,X,W,V,U,T,S,Q,P,O,L,J,I,H,F,E,D,C,z,y,x,w,v,u,t,s,r,p,ah,am,an,tV,an,ak,a,a,an,ar,tV,a,aj,pV 1 bg 2,iV R,al,ax,ay,tV,xV,xV,xV,xV,tV,tV,vV (g 70)] aA))∧(aq=false→rng (((j:Nat):Int)+(1:Int))∧NX [o,l,ag,af,vV (g 4),k,b,aj,ap,ah,an,a,ad,ac,ab,aa,Z,Y,X,W,V,U,T,S,Q,P,O,L,J,I,H,F,E,D,C,z,y,x,w,v,u,t,s,r,p,ah,am,av,tV,an,ak,a,a,an,ar,fV,xV,xV,xV,xV,xV,xV,xV,xV,xV,xV,xV,xV,xV,fV,av] aA))∧(az=false→kx (Exit.exit 2) [o,l,ag,af,vV (g 4),k,b,aj,ap,ah,vV (g 10),vV (g 11),ad,ac,ab,aa,Z,Y,X,W,V,U,T,S,Q,P,O,L,J,I,H,F,E,D,C,z,y,x,w,v,u,t,s,r,p,ah,am,an,fV,vV (g 49),vV (g 50),vV (g 51),vV (g 52),vV (g 53),vV (g 54),vV (g 55),vV (g 56),vV (g 57),vV (g 58),vV (g 59),vV (g 60),vV (g 61),vV (g 62),vV (g 63),vV (g 64),vV (g 65),vV (g 66),vV (g 67),vV (g 68),vV (g 69),vV (g 70)] aA)) [Hr false ao 0 1 n 0 [fun aA=>Ci (f aA)],Hc bg 68 [Ci G,Ci B,Ci R,Ci K],Hc bs 86 [Ci sp,Cs 0 ao n c],Hr false a2 0 1 m 0 [fun aA=>Ci (h aA)]]) (decide (((j:Nat):Int)<((m:Nat):Int)))) (bV aw)) (bV au)) (! au)) (iV (((j:Nat):Int)+(1:Int)))) (btw (h j) (R-sp) (R-(1:Int)))) (bV aq)) ((h j) != ((j:Nat):Int))) (iV ((q:Nat):Int))) (iV ((j:Nat):Int))) (iV ((m:Nat):Int))) (iV (R-(1:Int)))) (rV 3 a2 1 j 0)) (iV (R-sp))) (sV 3 a2 m d)) (pV 1 bg 0)) (pV 2 bs 0)) (vV (g 12))) (vV (g 13))) (vV (g 14))) (vV (g 15))) (vV (g 16))) (vV (g 17))) (vV (g 18))) (vV (g 19))) (vV (g 20))) (vV (g 21))) (vV (g 22))) (vV (g 23))) (vV (g 24))) (vV (g 25))) (vV (g 26))) (vV (g 27))) (vV (g 28))) (vV (g 29))) (vV (g 30))) (vV (g 31))) (vV (g 32))) (vV (g 33))) (vV (g 34))) (vV (g 35))) (vV (g 36))) (vV (g 37))) (vV (g 38))) (vV (g 39))) (vV (g 40))) (vV (g 41))) (vV (g 42))) (vV (g 43))) (vV (g 44))) (vV (g 0))) (vV (g 1))) (vV (g 5))) (vV (g 6))) (iV (h j))):=by kernel_rfl
theorem swK_ok (ao:Option Addr)(n c:Nat)(f:Nat→Int)(sp G B R K:Int)(N M:Nat)(bg bs q:Nat)(a2:Option Addr)(m d:Nat)(h:Nat→Int)(hn:m≤9223372036854775807)(hR:2≤R∧R≤16)(X:Cx):LoopOK Tryz.prog X (theLoop Tryz.f65 1) (sswK ao n c f sp G B R K N M bg bs q a2 m d h):=by
 intro ts ch k a w hS hT hd hs
 obtain ⟨⟨h1,hch⟩,hk,hr⟩:=hS
 refine loop_ok mixed (E:={tb:=[(61,sBtw),(139,sCr)]}) ⟨sBtwI_ok,sCr_I,trivial⟩ (loopsOK_nil _ _ _) 400 m (fun j ts ch=>∃ g,allB j (swKP ao n c f sp G B R K N M bg bs q a2 m d h)=true∧ts=swKH ao n c f sp G B R K N M bg bs q a2 m d h (.int (j:Int)) g∧ch=swKT ao n c f sp G B R K N M bg bs q a2 m d h) ?_ ?_ hT hd hs
 ·rintro j _ _ ⟨g,hall,rfl,rfl⟩ hj
  refine @Eq.mpr _ _ (swKB ao n c f sp G B R K N M bg bs q a2 m d h j g _ _) ?_
  dsimp -zeta -proj -iota -eta -failIfUnchanged (etaStruct:=.none) only
  by_cases hlt:j<m
  ·have hjn:(0:Int)≤(j:Int)∧(j:Int)<(m:Int):=⟨by omega,by omega⟩
   clear h1
   cases hP:swKP ao n c f sp G B R K N M bg bs q a2 m d h j
   all_goals cases hp0:ieq (h j) (j:Int)
   all_goals cases hp1:btw (h j) (R-sp) (R-1)
   all_goals by_cases hp2:1<crC m h (h j)
   all_goals have hn0:=ieq_ne hp0
   all_goals (first | (exfalso;simp [swKP,hp0,hp1,hp2,hn0,bkB] at hP;done) | skip)
   all_goals
    repeat' (first
     | with_reducible exact rfl
     | exact True.intro
     | with_reducible assumption
     | (refine ⟨hlt,?_⟩;show Next _ _ _ _;refine Next.mk (fun g=>swKH ao n c f sp G B R K N M bg bs q a2 m d h (.int ((j+1:Nat):Int)) g) _ ⟨_,allB_succ hall hP,rfl,rfl⟩ rfl fun w hw=>hw.sel [0,1,2,3] (by simp))
     | (refine Next.mk (fun g=>swKR ao n c f sp G B R K N M bg bs q a2 m d h j g) _ (hr _ j hlt hall hP) rfl fun w hw=>hw.sel [0,1,2,3] (by simp))
     | refine And.intro ?_ ?_
     | (refine fun (h:@Eq Bool _ _)=>?_;exfalso;first | (simp [hp0,hp1,hp2,hn0,bkB] at h;done) | (simp [hp0,hp1,hp2,hn0,bkB] at h;omega))
     | (show @Eq (List _) _ _;exact rfl)
     | apply Exists.intro
     | intro _
     | omega)
  ·have hjn:m=j:=by omega
   subst hjn
   repeat' (first
    | with_reducible exact rfl
    | exact True.intro
    | (refine Next.mk (fun g=>swKH ao n c f sp G B R K N M bg bs q a2 m d h (.int (m:Int)) g) _ (hk _ hall) rfl fun w hw=>hw.sel [0,1,2,3] (by simp))
    | refine And.intro ?_ ?_
    | (refine fun (h:@Eq Bool _ _)=>?_;exfalso;first | (simp at h;done) | (simp at h;omega))
    | intro _)
 ·refine Next.mk (fun g=>swKH ao n c f sp G B R K N M bg bs q a2 m d h (.int ((0:Nat):Int)) g) _ ⟨_,allB_zero _,rfl,rfl⟩ h1 fun w hw=>?_
  rw [← hch]
  exact hw.sel [0,1,2,5] (by simp)
def sswKv (ao:Option Addr)(n c:Nat)(f:Nat→Int)(sp G B R K:Int)(N M:Nat)(bg bs:Nat):LSm:=fun ts ch kk=>∃ q a2 m d h,sswK ao n c f sp G B R K N M bg bs q a2 m d h ts ch kk∧lenC m
theorem swKv_ok (ao:Option Addr)(n c:Nat)(f:Nat→Int)(sp G B R K:Int)(N M:Nat)(bg bs:Nat)(hR:2≤R∧R≤16)(X:Cx):LoopOK Tryz.prog X (theLoop Tryz.f65 1) (sswKv ao n c f sp G B R K N M bg bs):=by
 rintro ts ch kk a w ⟨q,a2,m,d,h,hh,hi⟩ hT hd hs
 exact swK_ok ao n c f sp G B R K N M bg bs q a2 m d h hi hR X ts ch kk a w hh hT hd hs
def sBkR:Sm:=inlM Tryz.prog {tb:=[]} 300 Tryz.f138
theorem sBkR_ok:SmOK Tryz.prog 138 sBkR:=inlM_ok mixed (E:={tb:=[]}) trivial Tryz.func138 Tryz.call138 (fun _ _ _=>loopsOK_nil _ _ _)
def swIH (ao:Option Addr)(n c:Nat)(f:Nat→Int)(sp G B R K:Int)(N M:Nat)(bg bs:Nat)(i:SC)(g:Nat→Value):List SV:=hdN [(2,.a (.c (.ptr 1 bg 0))),(3,.a (.c (.ptr 2 bs 0))),(7,.a (.c (.int (isub R sp)))),(8,.a (.c i))] g 0 71
def swIR (ao:Option Addr)(n c:Nat)(f:Nat→Int)(sp G B R K:Int)(N M:Nat)(bg bs:Nat)(j:Nat)(g:Nat→Value):List SV:=hdN [(4,.a (.c (.lit false)))] g 0 71
def swIT (ao:Option Addr)(n c:Nat)(f:Nat→Int)(sp G B R K:Int)(N M:Nat)(bg bs:Nat):List Ch:=[.row ⟨false,ao,0,1,n,0,[fun i=>.int (f i)]⟩,.cells bg 68 [.int G,.int B,.int R,.int K],.cells bs 86 [.int sp,.sl 0 ao n c]]
def swIP (ao:Option Addr)(n c:Nat)(f:Nat→Int)(sp G B R K:Int)(N M:Nat)(bg bs:Nat)(j:Nat):Bool:=allB (Int.toNat ((((j:Int)+1)*(R-sp))-((j:Int)*(R-sp)))) (bkB (Int.toNat ((((j:Int)+1)*(R-sp))-((j:Int)*(R-sp)))) (fun i=>f (i+Int.toNat ((j:Int)*(R-sp)))) R sp)
def sswI (ao:Option Addr)(n c:Nat)(f:Nat→Int)(sp G B R K:Int)(N M:Nat)(bg bs:Nat):LSm:=fun ts ch k =>
 (ts.map SV.den=(swIH ao n c f sp G B R K N M bg bs (.il 0) (fun d=>(ts.getD d .undef).den)).map SV.den∧selC ch [0,1,2]=swIT ao n c f sp G B R K N M bg bs) ∧
  (∀ g,allB N (swIP ao n c f sp G B R K N M bg bs)=true→k (.exit 0) (swIH ao n c f sp G B R K N M bg bs (.int (N:Int)) g) (swIT ao n c f sp G B R K N M bg bs))∧(∀ g j,ltN j N→allB j (swIP ao n c f sp G B R K N M bg bs)=true→swIP ao n c f sp G B R K N M bg bs j=false→k .ret (swIR ao n c f sp G B R K N M bg bs j g) (swIT ao n c f sp G B R K N M bg bs))
theorem swIB (ao:Option Addr)(n c:Nat)(f:Nat→Int)(sp G B R K:Int)(N M:Nat)(bg bs:Nat)(j:Nat)(g:Nat→Value)(NX:List SV→List Ch→Prop)(kx:Exit→List SV→List Ch→Prop):(exCode Tryz.prog {tb:=[(133,sBank),(138,sBkR)],L:=[(10,sswKv ao n c f sp G B R K N M bg bs)]} 400 (theLoop Tryz.f65 0) (swIH ao n c f sp G B R K N M bg bs (.int (j:Int)) g) (swIT ao n c f sp G B R K N M bg bs) (loopK NX kx))=(
 (fun a:Int=>(fun b:Value=>(fun d:Ch=>(fun h:Value=>(fun k:Nat=>(fun l:Ch=>(fun m:Ch=>(fun o:Bool=>(fun p:Nat=>bg=bg∧(o=true→bg=bg∧bs=bs∧∀ q r:Nat,q=q∧r=r∧rng (R-sp)∧r=r∧rng (((j:Nat):Int)*(R-sp))∧rng (((j:Nat):Int)+(1:Int))∧rng ((((j:Nat):Int)+(1:Int))*(R-sp))∧(ao=ao∧n=n∧inSub (((j:Nat):Int)*(R-sp)) ((((j:Nat):Int)+(1:Int))*(R-sp)) n∧n≤c)∧∀ s:Option Addr,(fun t:Value=>∃(u:Nat) (v:Option Addr) (w x:Nat) (y:Nat→Int),(fun z:SV=>(fun C:Ch=>(([g 0,g 1,Wp bg 0,Wp bs 0,g 4,g 5,g 6,Wi (R-sp),b,t,g 10,g 11,g 12,g 13,g 14,g 15,g 16,g 17,g 18,g 19,g 20,g 21,g 22,g 23,g 24,g 25,g 26,g 27,g 28,g 29,g 30,g 31,g 32,g 33,g 34,b,h,Wi a,Wb true,g 39,g 40,h,Wa [Wi sp,Ws ao n c],b,t,t,Wi ((p:Nat):Int),Wi 0,g 48,g 49,g 50,g 51,g 52,g 53,g 54,g 55,g 56,g 57,g 58,g 59,g 60,g 61,g 62,g 63,g 64,g 65,g 66,g 67,g 68,g 69,g 70]=[g 0,g 1,Wp bg 0,Wp bs 0,g 4,g 5,g 6,Wi (R-sp),Wi ((u:Nat):Int),Ws v w x,g 10,g 11,g 12,g 13,g 14,g 15,g 16,g 17,g 18,g 19,g 20,g 21,g 22,g 23,g 24,g 25,g 26,g 27,g 28,g 29,g 30,g 31,g 32,g 33,g 34,b,h,Wi a,Wb true,g 39,g 40,h,Wa [Wi sp,Ws ao n c],b,t,Ws v w x,Wi ((w:Nat):Int),Wi 0,g 48,g 49,g 50,g 51,g 52,g 53,g 54,g 55,g 56,g 57,g 58,g 59,g 60,g 61,g 62,g 63,g 64,g 65,g 66,g 67,g 68,g 69,g 70]∧[m,l,d,Hr false s 0 1 p 0 [fun D=>Ci (f (D+k))]]=[m,l,d,C])∧(∀ D:Nat→Value,(allB w (swKP ao n c f sp G B R K N M bg bs u v w x y))=true→rng (((u:Nat):Int)+(1:Int))∧NX [vV (D 0),vV (D 1),pV 1 bg 0,pV 2 bs 0,vV (D 4),vV (D 5),vV (D 6),iV (R-sp),z,sV 3 v w x,vV (D 10),vV (D 11),vV (D 12),vV (D 13),vV (D 14),vV (D 15),vV (D 16),vV (D 17),vV (D 18),vV (D 19),vV (D 20),vV (D 21),vV (D 22),vV (D 23),vV (D 24),vV (D 25),vV (D 26),vV (D 27),vV (D 28),vV (D 29),vV (D 30),vV (D 31),vV (D 32),vV (D 33),vV (D 34),vV (D 35),vV (D 36),vV (D 37),vV (D 38),iV ((u:Nat):Int),z,vV (D 41),vV (D 42),vV (D 43),vV (D 44),sV 3 v w x,iV ((w:Nat):Int),iV ((w:Nat):Int),vV (D 48),vV (D 49),vV (D 50),vV (D 51),vV (D 52),vV (D 53),vV (D 54),vV (D 55),vV (D 56),vV (D 57),vV (D 58),vV (D 59),vV (D 60),vV (D 61),vV (D 62),vV (D 63),vV (D 64),vV (D 65),vV (D 66),vV (D 67),vV (D 68),vV (D 69),vV (D 70)] [m,l,d,C])∧∀(D:Nat→Value) (E:Nat),E<w→(allB E (swKP ao n c f sp G B R K N M bg bs u v w x y))=true→(swKP ao n c f sp G B R K N M bg bs u v w x y E)=false→kx Exit.ret [vV (D 0),vV (D 1),vV (D 2),vV (D 3),fV,vV (D 5),vV (D 6),vV (D 7),vV (D 8),vV (D 9),vV (D 10),vV (D 11),vV (D 12),vV (D 13),vV (D 14),vV (D 15),vV (D 16),vV (D 17),vV (D 18),vV (D 19),vV (D 20),vV (D 21),vV (D 22),vV (D 23),vV (D 24),vV (D 25),vV (D 26),vV (D 27),vV (D 28),vV (D 29),vV (D 30),vV (D 31),vV (D 32),vV (D 33),vV (D 34),vV (D 35),vV (D 36),vV (D 37),vV (D 38),vV (D 39),vV (D 40),vV (D 41),vV (D 42),vV (D 43),vV (D 44),vV (D 45),vV (D 46),vV (D 47),vV (D 48),vV (D 49),vV (D 50),vV (D 51),vV (D 52),vV (D 53),vV (D 54),vV (D 55),vV (D 56),vV (D 57),vV (D 58),vV (D 59),vV (D 60),vV (D 61),vV (D 62),vV (D 63),vV (D 64),vV (D 65),vV (D 66),vV (D 67),vV (D 68),vV (D 69),vV (D 70)] [m,l,d,C])∧lenC w) (Hr false v 0 1 w 0 [fun C=>Ci (y C)])) (iV (((u:Nat):Int)+(1:Int)))) (Ws s p (c-k)))∧(o=false→kx (Exit.exit 0) [vV (g 0),vV (g 1),pV 1 bg 0,pV 2 bs 0,vV (g 4),vV (g 5),vV (g 6),iV (R-sp),iV ((j:Nat):Int),vV (g 9),vV (g 10),vV (g 11),vV (g 12),vV (g 13),vV (g 14),vV (g 15),vV (g 16),vV (g 17),vV (g 18),vV (g 19),vV (g 20),vV (g 21),vV (g 22),vV (g 23),vV (g 24),vV (g 25),vV (g 26),vV (g 27),vV (g 28),vV (g 29),vV (g 30),vV (g 31),vV (g 32),vV (g 33),vV (g 34),iV ((j:Nat):Int),aV [Ci G,Ci B,Ci R,Ci K],iV a,fV,vV (g 39),vV (g 40),vV (g 41),vV (g 42),vV (g 43),vV (g 44),vV (g 45),vV (g 46),vV (g 47),vV (g 48),vV (g 49),vV (g 50),vV (g 51),vV (g 52),vV (g 53),vV (g 54),vV (g 55),vV (g 56),vV (g 57),vV (g 58),vV (g 59),vV (g 60),vV (g 61),vV (g 62),vV (g 63),vV (g 64),vV (g 65),vV (g 66),vV (g 67),vV (g 68),vV (g 69),vV (g 70)] [m,l,d])) (Int.toNat (((((j:Nat):Int)+(1:Int))*(R-sp))-(((j:Nat):Int)*(R-sp))))) (decide (((j:Nat):Int)<a))) (Hr false ao 0 1 n 0 [fun m=>Ci (f m)])) (Hc bg 68 [Ci G,Ci B,Ci R,Ci K])) (Int.toNat (((j:Nat):Int)*(R-sp)))) (Wa [Wi G,Wi B,Wi R,Wi K])) (Hc bs 86 [Ci sp,Cs 0 ao n c])) (Wi ((j:Nat):Int))) (bankN G B R K)):=by kernel_rfl
theorem swI_ok (ao:Option Addr)(n c:Nat)(f:Nat→Int)(sp G B R K:Int)(N M:Nat)(bg bs:Nat)(hq:bankN G B R K=(N:Int)∧R-sp=(M:Int)∧n=N*M∧(N≤8∧2≤M∧M≤16)∧(2≤R∧R≤16)∧n≤c)(X:Cx):LoopOK Tryz.prog X (theLoop Tryz.f65 0) (sswI ao n c f sp G B R K N M bg bs):=by
 intro ts ch k a w hS hT hd hs
 obtain ⟨⟨h1,hch⟩,hk,hr⟩:=hS
 refine loop_ok mixed (E:={tb:=[(133,sBank),(138,sBkR)],L:=[(10,sswKv ao n c f sp G B R K N M bg bs)]}) ⟨sBank_I,sBkR_ok,trivial⟩ (body_loop (by kernel_rfl) (by kernel_rfl) (swKv_ok ao n c f sp G B R K N M bg bs hq.2.2.2.2.1 X)) 400 N (fun j ts ch=>∃ g,allB j (swIP ao n c f sp G B R K N M bg bs)=true∧ts=swIH ao n c f sp G B R K N M bg bs (.int (j:Int)) g∧ch=swIT ao n c f sp G B R K N M bg bs) ?_ ?_ hT hd hs
 ·rintro j _ _ ⟨g,hall,rfl,rfl⟩ hj
  refine @Eq.mpr _ _ (swIB ao n c f sp G B R K N M bg bs j g _ _) ?_
  dsimp -zeta -proj -iota -eta -failIfUnchanged (etaStruct:=.none) only
  by_cases hlt:j<N
  ·have hjn:(0:Int)≤(j:Int)∧(j:Int)<(N:Int):=⟨by omega,by omega⟩
   clear h1
   obtain ⟨q1,q2,q3,⟨q4,q5,q6⟩,⟨q7,q8⟩,q9⟩:=hq
   have k1:(j:Int)*(R-sp)=((j*M:Nat):Int):=by rw [q2];simp
   have k2:((j:Int)+1)*(R-sp)=((j*M+M:Nat):Int):=by rw [q2,Int.add_mul];simp
   have k3:j*M+M≤N*M:=by rw [← Nat.succ_mul];exact Nat.mul_le_mul_right M hlt
   have k4:N*M≤8*16:=Nat.mul_le_mul q4 q6
   have k5:Int.toNat ((((j:Int)+1)*(R-sp))-((j:Int)*(R-sp)))≤9223372036854775807:=by rw [k1,k2];omega
   cases hP:swIP ao n c f sp G B R K N M bg bs j
   all_goals cases hp0:allB (Int.toNat ((((j:Int)+1)*(R-sp))-((j:Int)*(R-sp)))) (bkB (Int.toNat ((((j:Int)+1)*(R-sp))-((j:Int)*(R-sp)))) (fun i=>f (i+Int.toNat ((j:Int)*(R-sp)))) R sp)
   all_goals (first | (exfalso;simp [swIP,hp0] at hP;done) | skip)
   all_goals
    repeat' (first
     | with_reducible exact rfl
     | exact True.intro
     | with_reducible assumption
     | (refine ⟨hlt,?_⟩;show Next _ _ _ _;refine Next.mk (fun g=>swIH ao n c f sp G B R K N M bg bs (.int ((j+1:Nat):Int)) g) _ ⟨_,allB_succ hall hP,rfl,rfl⟩ rfl fun w hw=>hw.sel [0,1,2] (by simp))
     | (refine Next.mk (fun g=>swIR ao n c f sp G B R K N M bg bs j g) _ (hr _ j hlt hall hP) rfl fun w hw=>hw.sel [0,1,2] (by simp))
     | refine And.intro ?_ ?_
     | (refine fun (h:@Eq Bool _ _)=>?_;exfalso;first | (simp [hp0] at h;done) | (simp [hp0] at h;omega))
     | (intro g hx;have h9:(allB (Int.toNat ((((j:Int)+1)*(R-sp))-((j:Int)*(R-sp)))) (bkB (Int.toNat ((((j:Int)+1)*(R-sp))-((j:Int)*(R-sp)))) (fun i=>f (i+Int.toNat ((j:Int)*(R-sp)))) R sp))=true:=hx;first | (exfalso;rw [hp0] at h9;cases h9;done) | clear h9)
     | (intro g k hk _ hq_;exfalso;have h9:bkB _ _ R sp k=true:=allB_get hp0 hk;have h8:bkB _ _ R sp k=false:=hq_;rw [h9] at h8;cases h8)
     | (show @Eq (List _) _ _;exact rfl)
     | (show lenC _;exact k5)
     | apply Exists.intro
     | intro _
     | omega)
  ·have hjn:N=j:=by omega
   subst hjn
   repeat' (first
    | with_reducible exact rfl
    | exact True.intro
    | (refine Next.mk (fun g=>swIH ao n c f sp G B R K N M bg bs (.int (N:Int)) g) _ (hk _ hall) rfl fun w hw=>hw.sel [0,1,2] (by simp))
    | refine And.intro ?_ ?_
    | (refine fun (h:@Eq Bool _ _)=>?_;exfalso;first | (simp at h;done) | (simp at h;omega))
    | intro _)
 ·refine Next.mk (fun g=>swIH ao n c f sp G B R K N M bg bs (.int ((0:Nat):Int)) g) _ ⟨_,allB_zero _,rfl,rfl⟩ h1 fun w hw=>?_
  rw [← hch]
  exact hw.sel [0,1,2] (by simp)
def sswIw (ao:Option Addr)(n c:Nat)(f:Nat→Int)(sp G B R K:Int)(N M:Nat):LSm:=fun ts ch kk=>∃ bg bs,sswI ao n c f sp G B R K N M bg bs ts ch kk
theorem swIw_ok (ao:Option Addr)(n c:Nat)(f:Nat→Int)(sp G B R K:Int)(N M:Nat)(hq:bankN G B R K=(N:Int)∧R-sp=(M:Int)∧n=N*M∧(N≤8∧2≤M∧M≤16)∧(2≤R∧R≤16)∧n≤c)(X:Cx):LoopOK Tryz.prog X (theLoop Tryz.f65 0) (sswIw ao n c f sp G B R K N M):=by
 rintro ts ch kk a w ⟨bg,bs,h⟩ hT hd hs
 exact swI_ok ao n c f sp G B R K N M bg bs hq X ts ch kk a w h hT hd hs
def swSH (ao:Option Addr)(n c:Nat)(f:Nat→Int)(sp G B R K:Int)(N M:Nat)(bg bs:Nat)(i:SC)(g:Nat→Value):List SV:=hdN [(2,.a (.c (.ptr 1 bg 0))),(3,.a (.c (.ptr 2 bs 0))),(7,.a (.c (.int (isub R sp)))),(8,.a (.c i))] g 0 77
def swSR (ao:Option Addr)(n c:Nat)(f:Nat→Int)(sp G B R K:Int)(N M:Nat)(bg bs:Nat)(j:Nat)(g:Nat→Value):List SV:=hdN [(4,.a (.c (.lit false)))] g 0 77
def swST (ao:Option Addr)(n c:Nat)(f:Nat→Int)(sp G B R K:Int)(N M:Nat)(bg bs:Nat):List Ch:=[.row ⟨false,ao,0,1,n,0,[fun i=>.int (f i)]⟩,.cells bg 68 [.int G,.int B,.int R,.int K],.cells bs 86 [.wi sp,.sl 0 ao n c]]
def swSP (ao:Option Addr)(n c:Nat)(f:Nat→Int)(sp G B R K:Int)(N M:Nat)(bg bs:Nat)(j:Nat):Bool:=ieq (f j) ((j:Int) % (R-sp)) || (btw (f j) (R-sp) (R-1)&&!isIn (Int.toNat ((j:Int)-((j:Int) / (R-sp)*(R-sp)))) (fun i=>f (i+Int.toNat ((j:Int) / (R-sp)*(R-sp)))) (f j))
def sswS (ao:Option Addr)(n c:Nat)(f:Nat→Int)(sp G B R K:Int)(N M:Nat)(bg bs:Nat):LSm:=fun ts ch k =>
 (ts.map SV.den=(swSH ao n c f sp G B R K N M bg bs (.il 0) (fun d=>(ts.getD d .undef).den)).map SV.den∧selC ch [0,1,2]=swST ao n c f sp G B R K N M bg bs) ∧
  (∀ g,allB n (swSP ao n c f sp G B R K N M bg bs)=true→k (.exit 0) (swSH ao n c f sp G B R K N M bg bs (.int (n:Int)) g) (swST ao n c f sp G B R K N M bg bs))∧(∀ g j,ltN j n→allB j (swSP ao n c f sp G B R K N M bg bs)=true→swSP ao n c f sp G B R K N M bg bs j=false→k .ret (swSR ao n c f sp G B R K N M bg bs j g) (swST ao n c f sp G B R K N M bg bs))
theorem swSB (ao:Option Addr)(n c:Nat)(f:Nat→Int)(sp G B R K:Int)(N M:Nat)(bg bs:Nat)(j:Nat)(g:Nat→Value)(NX:List SV→List Ch→Prop)(kx:Exit→List SV→List Ch→Prop):(exCode Tryz.prog {tb:=[(28,sBtw),(106,sHas)]} 400 (theLoop Tryz.f32 0) (swSH ao n c f sp G B R K N M bg bs (.int (j:Int)) g) (swST ao n c f sp G B R K N M bg bs) (loopK NX kx))=(
 (fun a:SV=>(fun b:SV=>(fun d:SV=>(fun h:SV=>(fun k:SV=>(fun l:SV=>(fun m:SV=>(fun o:SV=>(fun p:SV=>(fun q:SV=>(fun r:SV=>(fun s:SV=>(fun t:SV=>(fun u:SV=>(fun v:SV=>(fun w:SV=>(fun x:SV=>(fun y:SV=>(fun z:SV=>(fun C:SV=>(fun D:SV=>(fun E:SV=>(fun F:SV=>(fun H:SV=>(fun I:SV=>(fun J:SV=>(fun L:SV=>(fun O:SV=>(fun P:SV=>(fun Q:SV=>(fun S:SV=>(fun T:SV=>(fun U:SV=>(fun V:SV=>(fun W:SV=>(fun X:SV=>(fun Y:SV=>(fun Z:SV=>(fun aa:SV=>(fun ab:SV=>(fun ac:Bool=>(fun ad:SV=>(fun af:Ch=>(fun ag:Bool=>(fun ah:SV=>(fun aj:Bool=>(fun ak:Ch=>(fun al:Ch=>(fun am:SV=>(fun an:SV=>(fun ap:Bool=>(fun aq:Nat=>(fun ar:Prop=>(fun au:Nat=>(fun av:List (Nat→SC)=>(fun aw:List Ch=>bs=bs∧(ap=true→bs=bs∧ao=ao∧n=n∧ar∧ao=ao∧j<n∧divC ((j:Nat):Int) (R-sp)∧(aj=true→rng (((j:Nat):Int)+(1:Int))∧NX [l,k,T,S,vV (g 4),h,d,V,ad,b,Q,P,O,L,J,I,H,F,E,D,C,z,y,x,w,v,u,t,s,r,q,p,o,Z,m,U,Y,tV,Z,ad,m,U,Z,W,a,Z,V,ab,tV,vV (g 49),vV (g 50),vV (g 51),vV (g 52),vV (g 53),vV (g 54),vV (g 55),vV (g 56),vV (g 57),vV (g 58),vV (g 59),vV (g 60),vV (g 61),vV (g 62),vV (g 63),vV (g 64),vV (g 65),vV (g 66),vV (g 67),vV (g 68),vV (g 69),vV (g 70),vV (g 71),vV (g 72),vV (g 73),vV (g 74),vV (g 75),vV (g 76)] aw)∧(aj=false→bs=bs∧ao=ao∧n=n∧ar∧ao=ao∧j<n∧bg=bg∧rng (R-(1:Int))∧True∧(ag=false→bs=bs∧divC ((j:Nat):Int) (R-sp)∧rng ((((j:Nat):Int) / (R-sp))*(R-sp))∧bs=bs∧ao=ao∧n=n∧ar∧ao=ao∧j<n∧(ao=ao∧n=n∧inSub ((((j:Nat):Int) / (R-sp))*(R-sp)) ((j:Nat):Int) n∧n≤c)∧∀ ax:Option Addr,True∧∃ ay:Nat→Int,(fun az:Bool=>(ax=ax∧au=au∧av=[fun aA=>Ci (ay aA)])∧lenC au∧True∧(az=true→kx Exit.ret [l,k,T,S,fV,h,d,V,Z,b,Q,P,O,L,J,I,H,F,E,D,C,z,y,x,w,v,u,t,s,r,q,p,o,Z,m,U,Y,tV,vV (g 38),vV (g 39),m,U,Z,W,a,Z,V,ab,fV,m,U,Z,W,a,V,pV 1 bg 2,iV R,X,ah,am,fV,m,U,Z,V,aa,V,an,Z,sV 3 ax au (c-aq),m,U,Z,W,a,bV az,tV] [al,ak,af,Hr false ax 0 1 au 0 av])∧(az=false→rng (((j:Nat):Int)+(1:Int))∧NX [l,k,T,S,vV (g 4),h,d,V,ad,b,Q,P,O,L,J,I,H,F,E,D,C,z,y,x,w,v,u,t,s,r,q,p,o,Z,m,U,Y,tV,Z,ad,m,U,Z,W,a,Z,V,ab,fV,m,U,Z,W,a,V,pV 1 bg 2,iV R,X,ah,am,fV,m,U,Z,V,aa,V,an,Z,sV 3 ax au (c-aq),m,U,Z,W,a,bV az,fV] [al,ak,af,Hr false ax 0 1 au 0 av])) (isIn au ay (f j)))∧(ag=true→kx Exit.ret [l,k,T,S,fV,h,d,V,Z,b,Q,P,O,L,J,I,H,F,E,D,C,z,y,x,w,v,u,t,s,r,q,p,o,Z,m,U,Y,tV,vV (g 38),vV (g 39),m,U,Z,W,a,Z,V,ab,fV,m,U,Z,W,a,V,pV 1 bg 2,iV R,X,ah,am,tV,xV,xV,xV,xV,xV,xV,xV,xV,xV,xV,xV,xV,xV,xV,xV,tV] aw)))∧(ap=false→kx (Exit.exit 0) [l,k,T,S,vV (g 4),h,d,V,Z,b,Q,P,O,L,J,I,H,F,E,D,C,z,y,x,w,v,u,t,s,r,q,p,o,Z,m,U,Y,fV,vV (g 38),vV (g 39),vV (g 40),vV (g 41),vV (g 42),vV (g 43),vV (g 44),vV (g 45),vV (g 46),vV (g 47),vV (g 48),vV (g 49),vV (g 50),vV (g 51),vV (g 52),vV (g 53),vV (g 54),vV (g 55),vV (g 56),vV (g 57),vV (g 58),vV (g 59),vV (g 60),vV (g 61),vV (g 62),vV (g 63),vV (g 64),vV (g 65),vV (g 66),vV (g 67),vV (g 68),vV (g 69),vV (g 70),vV (g 71),vV (g 72),vV (g 73),vV (g 74),vV (g 75),vV (g 76)] aw)) [al,ak,af]) [fun av=>Ci (f (av+aq))]) (Int.toNat (((j:Nat):Int)-((((j:Nat):Int) / (R-sp))*(R-sp))))) (0≤((j:Nat):Int)∧((j:Nat):Int)<((n:Nat):Int))) (Int.toNat ((((j:Nat):Int) / (R-sp))*(R-sp)))) (decide (((j:Nat):Int)<((n:Nat):Int)))) (iV ((((j:Nat):Int) / (R-sp))*(R-sp)))) (bV ag)) (Hr false ao 0 1 n 0 [fun al=>Ci (f al)])) (Hc bg 68 [Ci G,Ci B,Ci R,Ci K])) ((f j) == (((j:Nat):Int) % (R-sp)))) (bV ac)) (! ac)) (Hc bs 86 [SC.wi sp,Cs 0 ao n c])) (iV (((j:Nat):Int)+(1:Int)))) (btw (f j) (R-sp) (R-(1:Int)))) (iV (((j:Nat):Int) % (R-sp)))) (iV (((j:Nat):Int) / (R-sp)))) (iV ((j:Nat):Int))) (iV ((n:Nat):Int))) (iV (R-(1:Int)))) (rV 0 ao 1 j 0)) (iV (R-sp))) (sV 0 ao n c)) (pV 1 bg 0)) (pV 2 bs 0)) (vV (g 10))) (vV (g 11))) (vV (g 12))) (vV (g 13))) (vV (g 14))) (vV (g 15))) (vV (g 16))) (vV (g 17))) (vV (g 18))) (vV (g 19))) (vV (g 20))) (vV (g 21))) (vV (g 22))) (vV (g 23))) (vV (g 24))) (vV (g 25))) (vV (g 26))) (vV (g 27))) (vV (g 28))) (vV (g 29))) (vV (g 30))) (vV (g 31))) (vV (g 32))) (pV 2 bs 1)) (vV (g 0))) (vV (g 1))) (vV (g 5))) (vV (g 6))) (vV (g 9))) (iV (f j))):=by kernel_rfl
theorem swS_ok (ao:Option Addr)(n c:Nat)(f:Nat→Int)(sp G B R K:Int)(N M:Nat)(bg bs:Nat)(hq:bankN G B R K=(N:Int)∧R-sp=(M:Int)∧n=N*M∧(N≤8∧2≤M∧M≤16)∧(2≤R∧R≤16)∧n≤c)(X:Cx):LoopOK Tryz.prog X (theLoop Tryz.f32 0) (sswS ao n c f sp G B R K N M bg bs):=by
 intro ts ch k a w hS hT hd hs
 obtain ⟨⟨h1,hch⟩,hk,hr⟩:=hS
 refine loop_ok mixed (E:={tb:=[(28,sBtw),(106,sHas)]}) ⟨sBtwS_ok,sHas_ok,trivial⟩ (loopsOK_nil _ _ _) 400 n (fun j ts ch=>∃ g,allB j (swSP ao n c f sp G B R K N M bg bs)=true∧ts=swSH ao n c f sp G B R K N M bg bs (.int (j:Int)) g∧ch=swST ao n c f sp G B R K N M bg bs) ?_ ?_ hT hd hs
 ·rintro j _ _ ⟨g,hall,rfl,rfl⟩ hj
  refine @Eq.mpr _ _ (swSB ao n c f sp G B R K N M bg bs j g _ _) ?_
  dsimp -zeta -proj -iota -eta -failIfUnchanged (etaStruct:=.none) only
  by_cases hlt:j<n
  ·have hjn:(0:Int)≤(j:Int)∧(j:Int)<(n:Int):=⟨by omega,by omega⟩
   clear h1
   obtain ⟨q1,q2,q3,⟨q4,q5,q6⟩,⟨q7,q8⟩,q9⟩:=hq
   have k4:N*M≤8*16:=Nat.mul_le_mul q4 q6
   have k0:(0:Int)<R-sp:=by omega
   have k1:(j:Int) / (R-sp)*(R-sp)≤(j:Int):=Int.ediv_mul_le _ (by omega)
   have k2:0≤(j:Int) / (R-sp)*(R-sp):=Int.mul_nonneg (Int.ediv_nonneg (by omega) (by omega)) (by omega)
   have k5:Int.toNat ((j:Int)-((j:Int) / (R-sp)*(R-sp)))≤9223372036854775807:=by omega
   cases hP:swSP ao n c f sp G B R K N M bg bs j
   all_goals cases hp0:ieq (f j) ((j:Int) % (R-sp))
   all_goals cases hp1:btw (f j) (R-sp) (R-1)
   all_goals cases hp2:isIn (Int.toNat ((j:Int)-((j:Int) / (R-sp)*(R-sp)))) (fun i=>f (i+Int.toNat ((j:Int) / (R-sp)*(R-sp)))) (f j)
   all_goals have hn0:=ieq_ne hp0
   all_goals (first | (exfalso;simp [swSP,hp0,hp1,hp2,hn0] at hP;done) | skip)
   all_goals
    repeat' (first
     | with_reducible exact rfl
     | exact True.intro
     | with_reducible assumption
     | (refine ⟨hlt,?_⟩;show Next _ _ _ _;refine Next.mk (fun g=>swSH ao n c f sp G B R K N M bg bs (.int ((j+1:Nat):Int)) g) _ ⟨_,allB_succ hall hP,rfl,rfl⟩ rfl fun w hw=>hw.sel [0,1,2] (by simp))
     | (refine Next.mk (fun g=>swSR ao n c f sp G B R K N M bg bs j g) _ (hr _ j hlt hall hP) rfl fun w hw=>hw.sel [0,1,2] (by simp))
     | refine And.intro ?_ ?_
     | (refine fun (h:@Eq Bool _ _)=>?_;exfalso;first | (simp [hp0,hp1,hp2,hn0] at h;done) | (simp [hp0,hp1,hp2,hn0] at h;omega))
     | (show @Eq (List _) _ _;exact rfl)
     | (show lenC _;exact k5)
     | apply Exists.intro
     | intro _
     | omega)
  ·have hjn:n=j:=by omega
   subst hjn
   repeat' (first
    | with_reducible exact rfl
    | exact True.intro
    | (refine Next.mk (fun g=>swSH ao n c f sp G B R K N M bg bs (.int (n:Int)) g) _ (hk _ hall) rfl fun w hw=>hw.sel [0,1,2] (by simp))
    | refine And.intro ?_ ?_
    | (refine fun (h:@Eq Bool _ _)=>?_;exfalso;first | (simp at h;done) | (simp at h;omega))
    | intro _)
 ·refine Next.mk (fun g=>swSH ao n c f sp G B R K N M bg bs (.int ((0:Nat):Int)) g) _ ⟨_,allB_zero _,rfl,rfl⟩ h1 fun w hw=>?_
  rw [← hch]
  exact hw.sel [0,1,2] (by simp)
def sswSw (ao:Option Addr)(n c:Nat)(f:Nat→Int)(sp G B R K:Int)(N M:Nat):LSm:=fun ts ch kk=>∃ bg bs,sswS ao n c f sp G B R K N M bg bs ts ch kk
theorem swSw_ok (ao:Option Addr)(n c:Nat)(f:Nat→Int)(sp G B R K:Int)(N M:Nat)(hq:bankN G B R K=(N:Int)∧R-sp=(M:Int)∧n=N*M∧(N≤8∧2≤M∧M≤16)∧(2≤R∧R≤16)∧n≤c)(X:Cx):LoopOK Tryz.prog X (theLoop Tryz.f32 0) (sswSw ao n c f sp G B R K N M):=by
 rintro ts ch kk a w ⟨bg,bs,h⟩ hT hd hs
 exact swS_ok ao n c f sp G B R K N M bg bs hq X ts ch kk a w h hT hd hs
end Go.Proofs.YtmnccapnjphmfaaGreat
